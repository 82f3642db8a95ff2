/- Part 2 of the proof: lemmas. -/
import Derived.Test.YthaoambmnjfdlaaDoorM1
namespace Go.Avm
open Go Go.WideShapes Go.ChangeShapes
def Tabs (gs : List (Nat × List Int)) (FM : Mem) : Prop := ∀ b zs, (b, zs) ∈ gs → ∀ i, i < zs.length → fmCell FM b i = some (.int .u8 (zs.getD i 0))
theorem tabs_mono {gs : List (Nat × List Int)} {FM FM' : Mem} (h : ∀ b o, FM b = some o → FM' b = some o) (ht : Tabs gs FM) : Tabs gs FM' := fun b zs hm i hi => fmCell_mono h (ht b zs hm i hi)
def Res.tab (gs : List (Nat × List Int)) : Res := ⟨Unit, fun _ _ => False, fun _ FM _ => Tabs gs FM, fun h k => tabs_mono k.fm h⟩
instance (gs : List (Nat × List Int)) : Tab (Tabs gs) (Res.tab gs) := ⟨fun h => h⟩
def isGlob (b : Nat) : Operand → Bool
  | .global c => Nat.beq b c
  | _ => false
def evTab (b : Nat) (zs : List Int) (ev : Operand → AV) (x : Operand) : AV := bif isGlob b x then .fp zs.length (fun j => .int .u8 (zs.getD j 0)) else ev x
theorem opOk_tab {P : Program} {R : Res} {gs : List (Nat × List Int)} [hT : Tab (Tabs gs) R] {o : Oper} {ev : Operand → AV} {hp : List AObj} {g : R.σ} {x : AV} (b : Nat) (zs : List Int) (hb : (b, zs) ∈ gs) (hg : ev (.global b) = .val (.pointer (some ⟨b, 0, none⟩))) {out : Out}
    (h : runPure (tyOf P) hp (evTab b zs ev) .none o.op = some out) (hob : AllP out.ob) (hx : Le out.v x) : OpOk P R o ev hp g x hp g := by
  refine ⟨fun FM ρ w evc okw hop => ?_⟩
  classical
  have htab := hT.h okw.j
  let ev' : Operand → AV := fun y => if y ∈ o.op.operands then evTab b zs ev y else .any
  have hev' : ∀ y, Den FM ρ (ev' y) (evc y) := by
    intro y
    by_cases hy : y ∈ o.op.operands
    · simp only [ev', hy, if_true]
      have h1 := hop y hy
      unfold evTab
      cases hi : isGlob b y with
      | false => exact h1
      | true =>
        have e : y = .global b := by
          cases y with
          | global c => rw [Nat.eq_of_beq_eq_true hi]
          | _ => cases hi
        rw [e, hg] at h1
        rw [e]
        obtain ⟨h1, _⟩ := h1
        refine ⟨b, 0, h1, fun j hj => ⟨.int .u8 (zs.getD j 0), ?_, rfl, rfl⟩⟩
        rw [Nat.zero_add]
        exact htab b zs hb j hj
    · simp only [ev', hy, if_false]; trivial
  have hsame : ∀ y ∈ o.op.operands, evTab b zs ev y = ev' y := fun y hy => by simp only [ev', hy, if_true]
  rw [runPure_ev hsame] at h
  obtain ⟨⟨v, h1, h2⟩, h3⟩ := runPure_sound okw.rel hev' h hob
  exact ⟨_, w, FM, ρ, v, h1, rfl, hx _ _ _ h2, okw, ⟨Ext.refl _ _ _ _, fun _ h => .inl h, Sub.refl _⟩⟩
theorem laid_tail {P : Program} {W : World} {x : String × DataW Unit} {r : List (String × DataW Unit)} (h : laidMet P (x :: r) W) : laidMet P r W := by
  obtain ⟨ps, ⟨g, t, cs, fuel, p, q, _, _, _, _, hr, rfl⟩, hn, hall⟩ := h
  exact ⟨q, hr, (List.nodup_append.1 hn).2.1, fun b off hb => hall b off (List.mem_append_right _ hb)⟩
theorem tabs_nil {FM : Mem} : Tabs [] FM := fun b zs hm => (by cases hm)
theorem tabs_cons {P : Program} {W : World} {name : String} {zs : List Int} {rest : List (String × DataW Unit)} {g : Nat} {t e : TypeId} {n : Nat} {gs : List (Nat × List Int)}
    (hg : P.globalNamed name = some g) (hty : (P.globals[g]?).map (·.type) = some t) (ht : P.underlying t = some (.array n e)) (he : P.underlying e = some (.int .u8)) (hce : P.cellsOf e = 1) (hct : P.cellsOf t = n)
    (h : laidMet P ((name, Lib.tabData .u8 zs) :: rest) W) (hr : laidMet P rest W → Tabs gs (memOf W)) : Tabs ((g, zs) :: gs) (memOf W) := by
  intro b ys hm i hi
  rcases List.mem_cons.1 hm with e1 | hm
  · cases e1
    exact fmCell_memOf ((Lib.tabIs_of_head hg hty ht he hce hct h).cell hg i hi)
  · exact hr (laid_tail h) b ys hm i hi
section
variable {H : Type} {enc : TypeId × Value → H} {P : Program}
theorem law_laid {a : Assume} {C : Checked} {os : Os} {f : FuncId} {fn : Func} {s : ChangeSpec} {F : Stop.Interp} {conds : List PathCond} {apart fresh handsOn again : Bool} {tb : TypeId} {X : List AV → Prop} {laid : List (String × DataW Unit)} {gs : List (Nat × List Int)}
    (own : ownKnob C.prog.godebug = none) (started : os.Started) (noInit : C.prog.inits.idxOf? f = none) (hfn : C.prog.funcs[f]? = some fn)
    (witness : ∃ (w : World) (tape : Tape) (i : Input), w.os = os ∧ (w.forCall tape i).Shaped C.prog ∧ i.vars = [] ∧ Input.okWide C.prog (w.forCall tape i) .any w.heap.size f i ∧
      (OpenSpec.ofChange s).preRow enc C.prog fn conds apart laid (w.forCall tape i).memory i.args ∧ a.holds C.prog (lone (Frame.enter C.prog f i.args .normal) [] (w.forCall tape i)))
    (hvars : s.vars = []) (hspec : ∀ ds : List (DataW H), ds.length = fn.params.size → s.fn H ds = { results := [.lit (.bool true)], args := ds })
    (hl : laidOutB C.prog = true) (hr : ∀ t ∈ fn.params.toList, C.prog.readableRec t = true ∧ t < C.prog.types.size)
    (hres : fn.resultTypes = #[tb]) (hb : C.prog.underlying tb = some .bool) (htab : ∀ W, laidMetH C.prog laid W → Tabs gs (memOf W))
    (hargs : ArgsOk C.prog fn.params.toList X) (hdoes : ∀ avs, X avs → Does C.prog (Res.tab gs) f avs [] () (.ret (.bool true)) [] ()) :
    ReturnsInHanded a C os f .any ((OpenSpec.ofChange s).preRow enc C.prog fn conds apart laid) (((OpenSpec.ofChange s).at F).post enc C.prog fn apart fresh handsOn again) := by
  refine returnsInHanded_of_row own started noInit hfn witness (fun W base args ds gs' before hval hW _ _ _ hL _ _ => ?_)
  have hW : DataW.Whole enc C.prog fn.params.toList s.vars apart W args.toList ds gs' before := hW
  have hW' := hW
  obtain ⟨p, q, hA, hV, rfl, hz, hn⟩ := hW
  rw [hvars] at hV
  obtain ⟨rfl, rfl⟩ := trodVars_none hV
  obtain ⟨avs, hX, hlen, hden⟩ := hargs H enc W base args.toList ds p (fun j t v h1 h2 => hval j t v (by simpa using h1) (by simpa using h2)) hA
  have hlt : ∀ x ∈ p, x.block < W.heap.size := fun x hx => hW'.lt x (by simp [hx])
  have hdl : ds.length = fn.params.size := by
    have : ∀ {ts : List TypeId} {vs : List Value} {ds : List (DataW H)} {ps : List MemPlace}, DataW.TrodAll enc C.prog W 0 (fun _ => true) true ts vs ds ps → ds.length = ts.length := by
      intro ts
      induction ts with
      | nil =>
        intro vs ds ps h
        obtain ⟨_, rfl, _⟩ := trodAll_nil h
        rfl
      | cons t ts ih =>
        intro vs ds ps h
        obtain ⟨v, vs, d, ds, p, q, rfl, rfl, rfl, _, hT⟩ := trodAll_cons h
        simp [ih hT]
    have := this hA
    simpa using this
  have hok : Ok (Res.tab gs) [] () (memOf W) [] W := ⟨⟨fun b o h => h, rfl, fun i p h => (by simp at h), fun i j p q h => (by simp at h)⟩, htab W hL, fun b h => absurd h (by simp [Res.tab])⟩
  refine ((hdoes avs hX).h (memOf W) [] W args hok ⟨by simpa using hlen, fun i hi => by
    have := hden i hi
    simpa [List.getD, Array.getD_eq_getD_getElem?] using this⟩).mono fun e W' ⟨FM', ρ', ⟨v, he, hv⟩, _, hg⟩ => ⟨v, he, ?_⟩
  have hv : v = .bool true := hv
  subst hv
  have hbel : RowKit.Below W.heap.size W W' := ⟨hg.ext.os, hg.ext.tape, hg.ext.output, hg.ext.size, fun k hk => hg.ext.keep k hk (fun ⟨p, hp, _⟩ => by cases hp) (fun h => h)⟩
  have hsp : s.fn H (ds ++ []) = { results := [.lit (.bool true)], args := ds } := by rw [List.append_nil]; exact hspec ds hdl
  show s.post enc C.prog fn apart fresh handsOn again W args (.bool true) W'
  refine post_of_below (pa := p) (pv := []) hW' (fun b sp hd => ?_) (fun sp hs => ?_) (fun sp _ => ?_) rfl hbel (fun j t r h1 h2 => ?_)
  · rw [hsp, hres]
    exact ⟨[], [], ⟨1, by simp [DataW.trod, Value.cells, hb]⟩, rfl, rfl⟩
  · rw [hsp]
    exact trodAll_stays hl hr hA (fun x hx => same_below hbel (hlt x hx)) (fun x hx => hs x (by simp [hx]))
  · rw [hsp, hvars]
    exact rfl
  · rw [hres] at h1 h2
    have hj : j = 0 := by
      cases j with
      | zero => rfl
      | succ j => simp at h1
    subst hj
    simp at h1
    subst h1
    simp [Value.resultList] at h2
    subst h2
    simp [Value.okWide, hb, Cell.okWide, Cell.ok]
end
end Go.Avm
namespace Go.Avm
open Go
structure SeqO (P : Program) (f : FuncId) (o : AObj) (N : Nat) (items : Nat → List AV) (T : Mem → Prop := fun _ => True) : Prop where
  h : ∀ (R : Res) [Tab T R] (u : Value) (G : Nat → R.σ) (c : Nat → Bool),
    (∀ k, k < N → (∀ j, j < k → c j = true) → ∀ hpo, VDoes P R u (items k) hpo (G k) (.ret (.bool (c k))) hpo (G (k + 1))) →
    ∃ hp', hp'.length = 1 ∧ Does P R f [.val u, .ref 0 0] [o] (G 0) (.ret (.tup 0 (nth []))) hp' (G (stopF c N 0))
def belowO (k : Nat) : AObj → Prop
  | .cells _ n get => ∀ j, j < n → Below k (get j)
  | _ => True
def allBO (k : Nat) : List AObj → Prop
  | [] => True
  | o :: r => belowO k o ∧ allBO k r
theorem allBO_get {k : Nat} : ∀ {l : List AObj}, allBO k l → ∀ i, belowO k (getO l i)
  | [], _, i => by cases i <;> trivial
  | _ :: _, h, 0 => h.1
  | _ :: r, h, i + 1 => allBO_get (l := r) h.2 i
theorem objRel_cut {FM : Mem} {ρ : Plc} {p : Nat × Nat × Nat} {w : World} {o : AObj} {k : Nat} (h : ObjRel FM ρ p w o) (hb : belowO k o) : ObjRel FM (ρ.take k) p w o := by
  cases o with
  | dead => trivial
  | map es => exact h
  | cells f n get =>
    intro hn
    obtain ⟨cs, e, a1, a2, a3, a4, a5⟩ := h hn
    exact ⟨cs, e, a1, a2, a3, fun j hj => let ⟨x, b1, b2, b3⟩ := a4 j hj; ⟨x, b1, b2, den_below _ b3 (hb j hj)⟩, a5⟩
theorem objRel_sub {FM : Mem} {ρ ρ' : Plc} {p : Nat × Nat × Nat} {w : World} {o : AObj} (hs : Sub ρ ρ') (h : ObjRel FM ρ p w o) : ObjRel FM ρ' p w o := by
  cases o with
  | dead => trivial
  | map es => exact h
  | cells f n get =>
    intro hn
    obtain ⟨cs, e, a1, a2, a3, a4, a5⟩ := h hn
    exact ⟨cs, e, a1, a2, a3, fun j hj => let ⟨x, b1, b2, b3⟩ := a4 j hj; ⟨x, b1, b2, Den.mono (fun _ _ h => h) _ hs b3⟩, a5⟩
def slotsOf : List Nat → List (Nat × AV) → List (Nat × AV)
  | [], _ => []
  | t :: ts, fr => (t, lk fr t) :: slotsOf ts fr
def allIn (ts : List Nat) (p : Nat → Prop) : Prop := match ts with
  | [] => True
  | t :: r => p t ∧ allIn r p
theorem allIn_mem {p : Nat → Prop} : ∀ {ts : List Nat}, allIn ts p → ∀ t, t ∈ ts → p t
  | [], _, t, h => by simp at h
  | a :: r, h, t, ht => by
    rcases List.mem_cons.1 ht with rfl | ht
    · exact h.1
    · exact allIn_mem (ts := r) h.2 t ht
theorem slotsOf_den {FM : Mem} {ρ ρ0 : Plc} {m : Nat} {fr : List (Nat × AV)} {v : Nat → Value} (h : ∀ t, Den FM ρ (lk fr t) (v t)) : ∀ {ts : List Nat}, (∀ t, t ∈ ts → Below m (lk fr t)) → ρ0 = ρ.take m → ∀ t, Den FM ρ0 (lk (slotsOf ts fr) t) (v t)
  | [], _, _, t => trivial
  | a :: r, hb, e, t => by
    show Den FM ρ0 (bif Nat.beq t a then lk fr a else lk (slotsOf r fr) t) (v t)
    cases hta : Nat.beq t a with
    | true =>
      have := Nat.eq_of_beq_eq_true hta
      subst this
      rw [e]
      exact den_below _ (h t) (hb t List.mem_cons_self)
    | false => exact slotsOf_den h (fun t ht => hb t (List.mem_cons_of_mem _ ht)) e t
section
variable {P : Program} {R : Res}
def RoundB (P : Program) (R : Res) (nt : Nat) (assign body : Code) (jmp : Option Code) (hp' : List AObj) (g' : R.σ) (s : St R.σ) : Prop :=
  ∀ l, wpA P R nt s.hp.length (.inr l) assign (fun e s1 => e = .normal ∧ wpA P R nt s1.hp.length (.inr l) body (RndQ R s.hp.length jmp hp' g') s1) s
theorem vdoes_yieldB {nt D L : Nat} {fn : FuncId} {tmps : Array Value} {ps : Array Tmp} {assign body : Code} {rec : LoopState → Option Code → Loop}
    (hrec : rec = fun st pe => { state := st, pending := pe, fn, tmps, params := ps, assign, body, defers := D }) {FM0 : Mem} {ρ : Plc} {fr : List (Nat × AV)} (hsz : tmps.size = nt) (hfr : ∀ t, Den FM0 ρ (lk fr t) (tmps.getD t undef)) (hne : D ≠ L)
    {items : List AV} (hlen : items.length = ps.toList.length) (hlt : allLt ps.toList nt = true) (hit : allB 0 items) {jmp : Option Code} {hp hp' : List AObj} {g g' : R.σ} (hl : hp'.length = hp.length)
    (hround : RoundB P R nt assign body jmp hp' g' ⟨setPs ps.toList items fr, hp, g⟩) (hpo : List AObj) :
    VDoes P (absorb (loopR R D L rec) FM0 ρ) (.func (.yield L) #[] #[]) items hpo ((g, .ready, none), hp) (.ret (.bool jmp.isNone)) hpo ((g', (if jmp.isNone then .ready else .done), jmp), hp') := by
  refine ⟨.inr ⟨L, rfl, fun FM ρ1 w vs ok hvs => ?_⟩⟩
  obtain ⟨okL, hmono⟩ := ok.j
  obtain ⟨jR, hD, hL, ⟨fD, fL⟩, bD, bL⟩ := okL.j
  have okR := ok_of_loopR okL
  have iD : ¬ InB ρ D := (okL.bd D (.inr (.inl rfl))).2
  have iL : ¬ InB ρ L := (okL.bd L (.inr (.inr rfl))).2
  have lD : D < w.heap.size := (Array.getElem?_eq_some_iff.1 hD).1
  have lL : L < w.heap.size := (Array.getElem?_eq_some_iff.1 hL).1
  have hvsz : vs.size = ps.size := by rw [hvs.1, hlen]; simp
  have hrun := run_yield (P := P) hL (args := vs) (by rw [hrec]; exact hvsz)
  rw [hrec] at hrun
  refine ⟨_, _, _, _, hrun, fun r n => roundIn_of_wpIn trivial ?_⟩
  have hzip : (ps.zip vs).foldl (fun tmps (x : Tmp × Value) => tmps.setIfInBounds x.1 x.2) tmps = (ps.toList.zip vs.toList).foldl (fun tmps (p : Nat × Value) => tmps.setIfInBounds p.1 p.2) tmps := by
    rw [← Array.foldl_toList, Array.toList_zip]
  have hset := setPs_ok (FM := FM) (ρ := ρ) ps.toList items vs.toList fr tmps hsz hlt hlen (by simpa using hvsz) (fun i hi => by
    have := hvs.2 i hi
    have h2 := denL_below (ρ' := ρ) hvs (fun i hi => allB_nth hit i hi)
    have h3 := h2.2 i hi
    rw [Array.getD_eq_getD_getElem?] at h3
    rw [List.getD_eq_getElem?_getD, Array.getElem?_toList]
    exact h3) (fun t => Den.mono hmono _ (Sub.refl _) (hfr t))
  let C : Cx R := ⟨g, FM, ρ, w, ⟨[], false⟩⟩
  have hsat : Sat R C nt ⟨setPs ps.toList items fr, hp, g⟩ FM ρ { tmps := (ps.zip vs).foldl (fun tmps (x : Tmp × Value) => tmps.setIfInBounds x.1 x.2) tmps, defers := [] } w := by
    refine ⟨okR, Goes.refl _ _ _ _ _, ?_, .start, fun t => ?_⟩
    · show Array.size _ = nt
      rw [hzip]; exact hset.1
    · show Den FM ρ _ (Array.getD _ _ _)
      rw [hzip]; exact hset.2 t
  have hC : C.ρ.length = hp.length := okR.rel.len
  refine wpIn_mono (hround L C ⟨hC, rfl⟩ n _ w ⟨FM, ρ, hsat⟩) (fun e a1 w1 hpost => ?_)
  have post : ∃ s1 FM1 ρ1, e = .normal ∧ (wpA P R nt s1.hp.length (.inr L) body (RndQ R hp.length jmp hp' g') s1) ∧ Sat R C nt s1 FM1 ρ1 a1 w1 := by
    cases e with
    | normal => obtain ⟨s, ⟨_, h1⟩, FM1, ρ1, h2⟩ := hpost; exact ⟨s, FM1, ρ1, rfl, h1, h2⟩
    | exit id => obtain ⟨s, ⟨h1, _⟩, _⟩ := hpost; cases h1
    | ret => obtain ⟨s, ⟨h1, _⟩, _⟩ := hpost; cases h1
    | panic ch => obtain ⟨s, x, v, FM1, ρ1, ⟨h1, _⟩, _⟩ := hpost; cases h1
    | goto l => exact hpost.elim
    | outgrown => exact hpost.elim
  obtain ⟨s1, FM1, ρ1', rfl, hbody, hs1⟩ := post
  have hin1 : ∀ b, b < w.heap.size → ¬ InB ρ b → ¬ InB ρ1' b := fun b h1 h2 h3 => by
    rcases hs1.goes.ext.blk b h3 with h | h
    · exact h2 h
    · have h : w.heap.size ≤ b := h
      omega
  have keep1 : ∀ b, b < w.heap.size → ¬ InB ρ b → ¬ R.B g b → w1.heap[b]? = w.heap[b]? := hs1.goes.ext.keep
  have nofm1 : ∀ b, b < w.heap.size → ¬ InB ρ b → ¬ R.B g b → FM b = none → FM1 b = none := fun b h1 h2 h3 h4 => by
    cases hx : FM1 b with
    | none => rfl
    | some o =>
      rcases hs1.goes.ext.grow b o hx with h | h | h | h
      · have h : FM b = some o := h
        rw [h4] at h; cases h
      · have h : w.heap.size ≤ b := h
        omega
      · exact absurd h h2
      · exact absurd h h3
  have nB1 : ∀ b, b < w.heap.size → ¬ R.B g b → ¬ R.B s1.g b := fun b h1 h3 hb => by
    rcases hs1.goes.bn b hb with h | h
    · exact h3 h
    · have h : w.heap.size ≤ b := h
      omega
  have hL1 : w1.heap[L]? = some (.loop (rec .ready none)) := (keep1 L lL iL bL).trans hL
  have hD1 : w1.heap[D]? = some (.deferred (some [])) := (keep1 D lD iD bD).trans hD
  have fL1 := nofm1 L lL iL bL fL
  have fD1 := nofm1 D lD iD bD fD
  have bL1 := nB1 L lL bL
  have bD1 := nB1 D lD bD
  have lL1 : L < w1.heap.size := (Array.getElem?_eq_some_iff.1 hL1).1
  have lD1 : D < w1.heap.size := (Array.getElem?_eq_some_iff.1 hD1).1
  refine ⟨_, run_beginRound hL1 (by rw [hrec]), ?_⟩
  have okb := ok_put (.loop { rec .ready none with state := .busy }) (hin1 L lL iL) bL1 fL1 hs1.ok
  let C2 : Cx R := ⟨s1.g, FM1, ρ1', w1.putObj L (.loop { rec .ready none with state := .busy }), ⟨[], false⟩⟩
  have hsat2 : Sat R C2 nt s1 FM1 ρ1' a1 (w1.putObj L (.loop { rec .ready none with state := .busy })) := by
    refine ⟨okb, Goes.refl _ _ _ _ _, hs1.size, ?_, hs1.fr⟩
    have e : a1.defers = [] := hs1.defs.none
    rw [e]; exact .start
  refine wpIn_mono (hbody C2 ⟨hs1.ok.rel.len, rfl⟩ n a1 _ ⟨FM1, ρ1', hsat2⟩) (fun e a3 w3 hp3 => ?_)
  have lL2 : L < (w1.putObj L (.loop { rec .ready none with state := .busy })).heap.size := by simpa using lL1
  have lD2 : D < (w1.putObj L (.loop { rec .ready none with state := .busy })).heap.size := by simpa using lD1
  -- the end of the round
  have fin : ∀ (s3 : St R.σ) (FM3 : Mem) (ρ3 : Plc), Sat R C2 nt s3 FM3 ρ3 a3 w3 → (∃ s', To R hp.length s3 s' ∧ s'.hp = hp' ∧ s'.g = g') → ∃ v w', (Instr.endRound L jmp).run P w3 = .ok v w' ∧
      Post (absorb (loopR R D L rec) FM0 ρ) ((g, .ready, none), hp) FM ρ1 w (.ret (.bool jmp.isNone)) hpo ((g', (if jmp.isNone then .ready else .done), jmp), hp') (.returned v) w' := by
    rintro s3 FM3 ρ3 hs3 ⟨s', hto, rfl, rfl⟩
    have hL3 : w3.heap[L]? = some (.loop { rec .ready none with state := .busy }) := (hs3.goes.ext.keep L lL2 (hin1 L lL iL) bL1).trans (World.putObj_heap_same lL1)
    have hD3 : w3.heap[D]? = some (.deferred (some [])) := (hs3.goes.ext.keep D lD2 (hin1 D lD iD) bD1).trans ((World.putObj_heap_other hne).trans hD1)
    refine ⟨_, _, run_endRound jmp hL3, ?_⟩
    obtain ⟨FM4, ρ4, a1', a2', a3', a4', a5', a6', a7'⟩ := hto ρ FM3 ρ3 w3 _ hC (fun i p h => hs3.goes.sub i p (hs1.goes.sub i p h)) hs3.ok hs3.fr
    obtain rfl := same_plc okR a1' hl a3'
    have nofm4 : ∀ b, b < w1.heap.size → ¬ InB ρ1' b → ¬ R.B s1.g b → FM1 b = none → FM4 b = none := fun b h1 h2 h3 h4 => by
      have h2' : ¬ InB ρ3 b := fun hi => by
        rcases hs3.goes.ext.blk b hi with h | h
        · exact h2 h
        · have h : (w1.putObj L (.loop { rec .ready none with state := .busy })).heap.size ≤ b := h
          simp at h; omega
      cases hx : FM4 b with
      | none => rfl
      | some o =>
        rcases a5' b o hx with h | h
        · rcases hs3.goes.ext.grow b o h with h | h | h | h
          · have h : FM1 b = some o := h
            rw [h4] at h; cases h
          · have h : (w1.putObj L (.loop { rec .ready none with state := .busy })).heap.size ≤ b := h
            simp at h; omega
          · exact absurd h h2
          · exact absurd h h3
        · exact absurd h h2'
    have nB3 : ∀ b, b < w1.heap.size → ¬ R.B s1.g b → ¬ R.B s'.g b := fun b h1 h3 hb => by
      rw [a7'] at hb
      rcases hs3.goes.bn b hb with h | h
      · exact h3 h
      · have h : (w1.putObj L (.loop { rec .ready none with state := .busy })).heap.size ≤ b := h
        simp at h; omega
    have fL4 := nofm4 L lL1 (hin1 L lL iL) bL1 fL1
    have fD4 := nofm4 D lD1 (hin1 D lD iD) bD1 fD1
    have bL4 := nB3 L lL1 bL1
    have bD4 := nB3 D lD1 bD1
    have ok4 := ok_put (.loop (rec (if jmp.isNone then .ready else .done) jmp)) iL bL4 fL4 a1'
    have erec : ({ ({ rec .ready none with state := .busy } : Loop) with state := if jmp.isNone then .ready else .done, pending := jmp } : Loop) = rec (if jmp.isNone then .ready else .done) jmp := by rw [hrec]
    rw [erec]
    -- how it has gone on
    have hsize : w.heap.size ≤ w3.heap.size := Nat.le_trans hs1.goes.ext.size (by have := hs3.goes.ext.size; simpa [C2] using this)
    have hgrow : ∀ b o, FM4 b = some o → FM b = some o ∨ w.heap.size ≤ b ∨ InB ρ4 b ∨ R.B g b := fun b o hb => by
      have h3 : FM3 b = some o ∨ w.heap.size ≤ b ∨ InB ρ4 b := by
        rcases a5' b o hb with h | h
        · exact .inl h
        · rcases hs3.goes.ext.blk b h with h | h
          · rcases hs1.goes.ext.blk b h with h | h
            · exact .inr (.inr h)
            · exact .inr (.inl h)
          · have h : (w1.putObj L (.loop { rec .ready none with state := .busy })).heap.size ≤ b := h
            have := hs1.goes.ext.size
            simp at h
            exact .inr (.inl (Nat.le_trans this h))
      rcases h3 with h3 | h3 | h3
      · rcases hs3.goes.ext.grow b o h3 with h | h | h | h
        · exact hs1.goes.ext.grow b o h
        · have h : (w1.putObj L (.loop { rec .ready none with state := .busy })).heap.size ≤ b := h
          have := hs1.goes.ext.size
          simp at h
          exact .inr (.inl (Nat.le_trans this h))
        · rcases hs1.goes.ext.blk b h with h | h
          · exact .inr (.inr (.inl h))
          · exact .inr (.inl h)
        · rcases hs1.goes.bn b h with h | h
          · exact .inr (.inr (.inr h))
          · exact .inr (.inl h)
      · exact .inr (.inl h3)
      · exact .inr (.inr (.inl h3))
    have hkeep : ∀ b, b < w.heap.size → ¬ InB ρ4 b → ¬ R.B g b → b ≠ L → (w3.putObj L (.loop (rec (if jmp.isNone then .ready else .done) jmp))).heap[b]? = w.heap[b]? := fun b h1 h2 h3 h4 => by
      rw [World.putObj_heap_other h4]
      have h1' : b < (w1.putObj L (.loop { rec .ready none with state := .busy })).heap.size := by
        simp; exact Nat.lt_of_lt_of_le h1 hs1.goes.ext.size
      refine (hs3.goes.ext.keep b h1' (hin1 b h1 h2) (nB1 b h1 h3)).trans ?_
      show (w1.putObj L _).heap[b]? = _
      rw [World.putObj_heap_other h4]
      exact hs1.goes.ext.keep b h1 h2 h3
    have hbn : ∀ b, R.B s'.g b → R.B g b ∨ w.heap.size ≤ b := fun b hb => by
      rw [a7'] at hb
      rcases hs3.goes.bn b hb with h | h
      · exact hs1.goes.bn b h
      · have h : (w1.putObj L (.loop { rec .ready none with state := .busy })).heap.size ≤ b := h
        have := hs1.goes.ext.size
        simp at h
        exact .inr (Nat.le_trans this h)
    have hfm : ∀ b o, FM b = some o → FM4 b = some o := fun b o hb => a4' b o (hs3.goes.ext.fm b o (hs1.goes.ext.fm b o hb))
    -- the iterator's objects
    have off : ∀ b, InB ρ1 b → b < w.heap.size ∧ ¬ R.B g b ∧ ¬ InB ρ4 b ∧ b ≠ L ∧ b ≠ D := fun b hb => by
      obtain ⟨p, hp1, hpb, hre⟩ := hb
      obtain ⟨i, hi⟩ := List.getElem?_of_mem hp1
      have hin : InB ρ1 b := ⟨p, hp1, hpb, hre⟩
      refine ⟨by rw [← hpb]; exact (ok.rel.obj i p hi).1 hre, fun hB => (ok.bd b (.inl (.inl hB))).2 hin, fun hI => (ok.bd b (.inr hI)).2 hin, fun e => (ok.bd b (.inl (.inr (.inr e)))).2 hin, fun e => (ok.bd b (.inl (.inr (.inl e)))).2 hin⟩
    have heap : ∀ b, InB ρ1 b → (w3.putObj L (.loop (rec (if jmp.isNone then .ready else .done) jmp))).heap[b]? = w.heap[b]? := fun b hb => let ⟨h1, h2, h3, h4, _⟩ := off b hb; hkeep b h1 h3 h2 h4
    have fmn : ∀ b, InB ρ1 b → FM b = none → FM4 b = none := fun b hb hn => by
      cases hx : FM4 b with
      | none => rfl
      | some o =>
        obtain ⟨h1, h2, h3, _⟩ := off b hb
        rcases hgrow b o hx with h | h | h | h
        · rw [hn] at h; cases h
        · omega
        · exact absurd h h3
        · exact absurd h h2
    refine ⟨FM4, ρ1, ⟨_, rfl, rfl⟩, ⟨⟨ok4.rel.fm, ok.rel.len, fun i p hi => ?_, ok.rel.inj⟩, ⟨⟨ok4.rel, ⟨ok4.j, (World.putObj_heap_other hne).trans hD3, World.putObj_heap_same (Array.getElem?_eq_some_iff.1 hL3).1, ⟨fD4, fL4⟩, bD4, bL4⟩, fun b hb => ?_⟩, fun b o hb => hfm b o (hmono b o hb)⟩, fun b hb => ?_⟩,
      ⟨⟨hfm, fun b o hb => ?_, fun b hb => .inl hb, fun b h1 h2 h3 => hkeep b h1 (fun hI => h3 (.inr hI)) (fun hB => h3 (.inl (.inl hB))) (fun e => h3 (.inl (.inr (.inr e)))), by simpa using hsize, ?_, ?_, ?_⟩, fun b hb => ?_, Sub.refl _⟩⟩
    · obtain ⟨k1, k2⟩ := ok.rel.obj i p hi
      refine ⟨fun hre => by simpa using Nat.lt_of_lt_of_le (k1 hre) hsize, ?_⟩
      cases hx : getO hpo i with
      | dead => trivial
      | map es =>
        rw [hx] at k2
        have hin : InB ρ1 p.1 := ⟨p, mem_of_get hi, rfl, k2.1⟩
        exact objRel_map k2 hfm (heap _ hin) (fmn _ hin k2.2.1)
      | cells f n g =>
        intro hn
        have hin : InB ρ1 p.1 := ⟨p, mem_of_get hi, rfl, (ok.rel.real_cells hi hx hn).1⟩
        rw [hx] at k2
        obtain ⟨cs, e', b1, b2, b3, b4, b5, b6⟩ := k2 hn
        exact ⟨cs, e', by rw [heap _ hin]; exact b1, b2, b3, fun j hj => let ⟨x, c1, c2, c3⟩ := b4 j hj; ⟨x, c1, c2, Den.mono hfm _ (Sub.refl _) c3⟩, fun hf => hfm _ _ (b5 hf), fun hf => fmn _ hin (b6 hf)⟩
    · rcases hb with hb | rfl | rfl
      · exact ok4.bd b hb
      · exact ⟨by simpa using Nat.lt_of_lt_of_le lD hsize, iD⟩
      · exact ⟨by simpa using Nat.lt_of_lt_of_le lL hsize, iL⟩
    · rcases hb with (hb | rfl | rfl) | hb
      · rcases hbn b hb with h1 | h1
        · exact ⟨(ok4.bd b hb).1, (ok.bd b (.inl (.inl h1))).2⟩
        · exact ⟨(ok4.bd b hb).1, fun hI => by have := (off b hI).1; omega⟩
      · exact ⟨by simpa using Nat.lt_of_lt_of_le lD hsize, fun hI => (off _ hI).2.2.2.2 rfl⟩
      · exact ⟨by simpa using Nat.lt_of_lt_of_le lL hsize, fun hI => (off _ hI).2.2.2.1 rfl⟩
      · exact ⟨by simpa using Nat.lt_of_lt_of_le (ok.bd b (.inr hb)).1 hsize, (ok.bd b (.inr hb)).2⟩
    · rcases hgrow b o hb with h | h | h | h
      · exact .inl h
      · exact .inr (.inl h)
      · exact .inr (.inr (.inr (.inr h)))
      · exact .inr (.inr (.inr (.inl (.inl h))))
    · exact hs3.goes.ext.os.trans hs1.goes.ext.os
    · exact hs3.goes.ext.tape.trans hs1.goes.ext.tape
    · exact hs3.goes.ext.output.trans hs1.goes.ext.output
    · rcases hb with (hb | rfl | rfl) | hb
      · rcases hbn b hb with h | h
        · exact .inl (.inl (.inl h))
        · exact .inr h
      · exact .inl (.inl (.inr (.inl rfl)))
      · exact .inl (.inl (.inr (.inr rfl)))
      · exact .inl (.inr hb)
  cases e with
  | normal => obtain ⟨s3, ⟨rfl, h⟩, FM3, ρ3, h2⟩ := hp3; exact fin s3 FM3 ρ3 h2 h
  | ret => obtain ⟨s3, ⟨rfl, h⟩, FM3, ρ3, h2⟩ := hp3; exact fin s3 FM3 ρ3 h2 h
  | exit id => obtain ⟨s3, ⟨rfl, h⟩, FM3, ρ3, h2⟩ := hp3; exact fin s3 FM3 ρ3 h2 h
  | panic ch => obtain ⟨s3, x, v, FM3, ρ3, h, _⟩ := hp3; exact h.elim
  | goto l => exact hp3.elim
  | outgrown => exact hp3.elim
theorem wpA_range1 {nt k0 : Nat} {Q : AEx → St R.σ → Prop} {s : St R.σ} {t : Nat} {ps : Array Tmp} {assign body : Code} {f m : Nat} {fa fb : Nat → AV} {o : AObj} (hf : lk s.fr t = .fn f 0 fa 1 fb) (hfb : fb 0 = .ref m 0) (hpl : isPlain P f = true)
    {N : Nat} {items : Nat → List AV} {T : Mem → Prop} [Tab T R] (hseq : SeqO P f o N items T) (hlen : ∀ k, (items k).length = ps.toList.length) (hlt : allLt ps.toList nt = true) (hit : ∀ k, allB 0 (items k))
    (jmp : Nat → Option Code) (hj : ∀ k, jOk (jmp k) = true) (H : Nat → List AObj) (G : Nat → R.σ) (h0 : s.hp = H 0 ++ [o]) (hg0 : G 0 = s.g) (hl : ∀ k, (H k).length = m)
    (hlive : allLive (H 0 ++ [o])) (hBO : allBO m (H 0)) (hBo : allBO 0 [o]) (ts : List Nat) (hBf : allIn ts (fun t => Below m (lk s.fr t)))
    (hround : ∀ k, k < N → (∀ j, j < k → jmp j = none) → RoundB P R nt assign body (jmp k) (H (k + 1)) (G (k + 1)) ⟨setPs ps.toList (items k) (slotsOf ts s.fr), H k, G k⟩)
    (hdone : (∀ k, k < N → jmp k = none) → Q .normal ⟨s.fr, H N ++ [.dead], G N⟩)
    (hret : ∀ k, k < N → (∀ j, j < k → jmp j = none) → jmp k = some .ret → Q .ret ⟨s.fr, H (k + 1) ++ [.dead], G (k + 1)⟩)
    (hexit : ∀ k id, k < N → (∀ j, j < k → jmp j = none) → jmp k = some (.exit id) → Q (.exit id) ⟨s.fr, H (k + 1) ++ [.dead], G (k + 1)⟩) :
    wpA P R nt k0 .top (.rangeFunc (.tmp t) ps assign body) Q s := by
  intro C hC n a w ⟨FM, ρ, hs⟩
  refine wpIn_rangeFunc (fun fn hfn => ?_)
  obtain ⟨D, hD⟩ : ∃ D, D = w.heap.size := ⟨_, rfl⟩
  obtain ⟨L, hL⟩ : ∃ L, L = w.heap.size + 1 := ⟨_, rfl⟩
  have hne : D ≠ L := by omega
  obtain ⟨rec, hrec⟩ : ∃ rec : LoopState → Option Code → Loop, rec = fun st pe => { state := st, pending := pe, fn, tmps := a.tmps, params := ps, assign, body, defers := D } := ⟨_, rfl⟩
  obtain ⟨W1, hW1⟩ : ∃ W1, (w.alloc (.deferred (some []))).alloc (.loop (rec .ready none)) = W1 := ⟨_, rfl⟩
  have hL1 : W1.heap[L]? = some (.loop (rec .ready none)) := by
    rw [← hW1, hL]; have := World.alloc_heap_new (w.alloc (.deferred (some []))) (.loop (rec .ready none)); rwa [World.size_alloc] at this
  have hD1 : W1.heap[D]? = some (.deferred (some [])) := by
    rw [← hW1, hD]; exact (_root_.Go.RowKit.Below.heap_alloc _ _ _ (by simp)).trans (World.alloc_heap_new w _)
  have hsz1 : W1.heap.size = w.heap.size + 2 := by rw [← hW1]; simp
  obtain ⟨okA, goA⟩ := ok_other hs.ok (.deferred (some []))
  obtain ⟨ok1, goB⟩ := ok_other okA (.loop (rec .ready none))
  have go1 := goA.trans goB
  rw [hW1] at ok1 go1
  -- the iterator's object
  have hlen0 : s.hp.length = m + 1 := by rw [h0]; simp [hl]
  have hρl : ρ.length = m + 1 := by rw [hs.ok.rel.len, hlen0]
  obtain ⟨pb, hpb⟩ : ∃ pb, ρ[m]? = some pb := ⟨_, List.getElem?_eq_getElem (by omega)⟩
  obtain ⟨ρ0, hρ0⟩ : ∃ ρ0, ρ0 = ρ.take m := ⟨_, rfl⟩
  have hsub0 : Sub ρ0 ρ := fun i p hi => by
    rw [hρ0, List.getElem?_take] at hi
    split at hi
    · exact hi
    · cases hi
  have hlt0 : ∀ {i p}, ρ0[i]? = some p → i < m := fun {i p} hi => by
    rw [hρ0, List.getElem?_take] at hi
    split at hi
    · assumption
    · cases hi
  have hInB : ∀ b, InB ρ b ↔ InB ρ0 b ∨ InB [pb] b := fun b => by
    constructor
    · rintro ⟨p, hp, hb, hre⟩
      obtain ⟨i, hi⟩ := List.getElem?_of_mem hp
      have : i < m + 1 := by rw [← hρl]; exact (List.getElem?_eq_some_iff.1 hi).1
      rcases Nat.lt_or_ge i m with h | h
      · exact .inl ⟨p, List.mem_of_getElem? (i := i) (by rw [hρ0, List.getElem?_take, if_pos h]; exact hi), hb, hre⟩
      · have : i = m := by omega
        subst this
        rw [hpb] at hi; cases hi
        exact .inr ⟨pb, by simp, hb, hre⟩
    · rintro (⟨p, hp, hb, hre⟩ | ⟨p, hp, hb, hre⟩)
      · obtain ⟨i, hi⟩ := List.getElem?_of_mem hp
        exact ⟨p, mem_of_get (hsub0 i p hi), hb, hre⟩
      · have : p = pb := by simpa using hp
        subst this
        exact ⟨p, mem_of_get hpb, hb, hre⟩
  have hgo : ∀ i, i < m → getO s.hp i = getO (H 0) i := fun i hi => by rw [h0, getO_append_lt (by rw [hl]; exact hi)]
  have hgm : getO s.hp m = o := by rw [h0, getO_append_ge (by rw [hl]; exact Nat.le_refl _), hl, Nat.sub_self]; rfl
  have hlv : ∀ i, i < m + 1 → isLive (getO s.hp i) = true := fun i hi => by rw [h0]; exact allLive_get hlive i (by simp [hl]; omega)
  have rel0 : ∀ W, HRel FM ρ s.hp W → HRel FM ρ0 (H 0) W := fun W hr => by
    refine ⟨hr.fm, by rw [hρ0, List.length_take, hl, hρl]; omega, fun i p hi => ?_, fun i j p q hi hj _ _ e => hr.inj i j p q (hsub0 i p hi) (hsub0 j q hj) (hlv i (by have := hlt0 hi; omega)) (hlv j (by have := hlt0 hj; omega)) e⟩
    obtain ⟨k1, k2⟩ := hr.obj i p (hsub0 i p hi)
    rw [hgo i (hlt0 hi)] at k2
    refine ⟨k1, ?_⟩
    rw [hρ0]
    exact objRel_cut k2 (allBO_get hBO i)
  have relI : ∀ W, HRel FM ρ s.hp W → HRel FM [pb] [o] W := fun W hr => by
    refine ⟨hr.fm, rfl, fun i p hi => ?_, fun i j p q hi hj _ _ _ => ?_⟩
    · have e : i = 0 := by
        have := (List.getElem?_eq_some_iff.1 hi).1
        simpa using this
      subst e
      have hi : pb = p := by simpa using hi
      subst hi
      obtain ⟨k1, k2⟩ := hr.obj m pb hpb
      rw [hgm] at k2
      refine ⟨k1, ?_⟩
      have := objRel_cut k2 (allBO_get hBo 0)
      exact objRel_sub (fun i p hi => by simp at hi) this
    · have e1 := (List.getElem?_eq_some_iff.1 hi).1
      have e2 := (List.getElem?_eq_some_iff.1 hj).1
      simp at e1 e2
      omega
  have hdis : ∀ b, InB [pb] b → ¬ InB ρ0 b := fun b ⟨p, hp, hb, hre⟩ ⟨q, hq, hb', hre'⟩ => by
    have : p = pb := by simpa using hp
    subst this
    obtain ⟨i, hi⟩ := List.getElem?_of_mem hq
    have := hlt0 hi
    have := hs.ok.rel.inj i m q p (hsub0 i q hi) hpb (hlv i (by omega)) (hlv m (by omega)) (by rw [hb, hb'])
    omega
  -- the new blocks are nobody's
  have nIn : ∀ X, w.heap.size ≤ X → ¬ InB ρ X := fun X hX ⟨p, hp, hb, hre⟩ => by
    obtain ⟨i, hi⟩ := List.getElem?_of_mem hp
    have := (hs.ok.rel.obj i p hi).1 hre
    omega
  have nB : ∀ X, w.heap.size ≤ X → ¬ R.B s.g X := fun X hX hb => by have := (hs.ok.bd X hb).1; omega
  have nF : ∀ X, w.heap.size ≤ X → FM X = none := fun X hX => by
    cases hx : FM X with
    | none => rfl
    | some o => have := (Array.getElem?_eq_some_iff.1 (hs.ok.rel.fm X o hx)).1; omega
  -- the iterator's call
  have hev : Den FM ρ (.fn f 0 fa 1 fb) (a.eval (.tmp t)) := by rw [← hf]; exact hs.fr t
  obtain ⟨xs, ys, hu, hxs, hys, hda, hdb⟩ := hev
  have hfr0 : ∀ t, Den FM ρ0 (lk (slotsOf ts s.fr) t) (a.tmps.getD t undef) := slotsOf_den (fun t => hs.fr t) (fun t ht => allIn_mem hBf t ht) hρ0
  let u : Value := .func (.yield L) #[] #[]
  let R2 : Res := absorb (loopR R D L rec) FM ρ0
  let G2 : Nat → R2.σ := fun k => ((G k, stJ jmp k), H k)
  let c : Nat → Bool := fun k => (jmp k).isNone
  have hstJ : ∀ k, (∀ j, j < k → c j = true) → stJ jmp k = (.ready, none) := fun k hk => by
    cases k with
    | zero => rfl
    | succ k =>
      have : jmp k = none := by simpa [c] using hk k (by omega)
      simp [stJ, this]
  have hdoes := hseq.h R2 u G2 c (fun k hk hjk hpo => by
    have e := hstJ k hjk
    have := vdoes_yieldB (P := P) (R := R) (L := L) hrec hs.size hfr0 hne (hlen k) hlt (hit k) (jmp := jmp k) (hp := H k) (hp' := H (k + 1)) (g := G k) (g' := G (k + 1)) (by rw [hl, hl]) (hround k hk (fun j h => by simpa [c] using hjk j h)) hpo
    show VDoes P R2 u (items k) hpo ((G k, stJ jmp k), H k) (.ret (.bool (jmp k).isNone)) hpo ((G (k + 1), stJ jmp (k + 1)), H (k + 1))
    rw [e]
    exact this)
  have okI : Ok R2 [o] (G2 0) FM [pb] W1 := by
    refine ⟨relI W1 ok1.rel, ⟨⟨rel0 W1 ok1.rel, ⟨by rw [show (G2 0).1.1 = s.g from hg0]; exact ok1.j, hD1, hL1, ⟨nF D (by omega), nF L (by omega)⟩, ?_, ?_⟩, fun b hb => ?_⟩, fun _ _ h => h⟩, fun b hb => ⟨?_, fun hI => ?_⟩⟩
    · rw [show (G2 0).1.1 = s.g from hg0]; exact nB D (by omega)
    · rw [show (G2 0).1.1 = s.g from hg0]; exact nB L (by omega)
    · have hb' : R.B s.g b ∨ b = D ∨ b = L := by
        rcases hb with hb | hb
        · rw [show (G2 0).1.1 = s.g from hg0] at hb; exact .inl hb
        · exact .inr hb
      rcases hb' with hb | rfl | rfl
      · exact ⟨(ok1.bd b hb).1, fun h => (ok1.bd b hb).2 ((hInB b).2 (.inl h))⟩
      · exact ⟨by omega, fun h => nIn _ (by omega) ((hInB _).2 (.inl h))⟩
      · exact ⟨by omega, fun h => nIn _ (by omega) ((hInB _).2 (.inl h))⟩
    · rcases hb with (hb | rfl | rfl) | ⟨p, hp, hb, hre⟩
      · rw [show (G2 0).1.1 = s.g from hg0] at hb; exact (ok1.bd b hb).1
      · omega
      · omega
      · obtain ⟨i, hi⟩ := List.getElem?_of_mem hp
        rw [← hb]; exact (ok1.rel.obj i p (hsub0 i p hi)).1 hre
    · rcases hb with (hb | rfl | rfl) | hb
      · rw [show (G2 0).1.1 = s.g from hg0] at hb; exact (ok1.bd b hb).2 ((hInB b).2 (.inr hI))
      · exact nIn _ (by omega) ((hInB _).2 (.inr hI))
      · exact nIn _ (by omega) ((hInB _).2 (.inr hI))
      · exact hdis b hI hb
  have hargs : DenL FM [pb] [.val u, .ref 0 0] ((xs ++ #[u]) ++ ys) := by
    have hxs0 : xs = #[] := Array.size_eq_zero_iff.1 hxs
    have hd0 := hdb 0 (by omega)
    rw [hfb] at hd0
    obtain ⟨p, hp1, hp2⟩ := hd0
    rw [hpb] at hp1; cases hp1
    subst hxs0
    refine ⟨by simp [hys], fun i hi => ?_⟩
    match i, hi with
    | 0, _ =>
      show _ = u ∧ _
      exact ⟨by simp [Array.getD_eq_getD_getElem?, Array.getElem?_append], rfl⟩
    | 1, _ =>
      refine ⟨pb, rfl, ?_⟩
      rw [← hp2]
      simp [Array.getD_eq_getD_getElem?, Array.getElem?_append]
  obtain ⟨hp1, hd1, hdoes⟩ := hdoes
  have hcalls := hdoes.h FM [pb] W1 _ okI hargs
  have hfn' : ∃ fn, P.funcs[f]? = some fn ∧ fn.name ≠ "runtime.NumGoroutine" ∧ fn.body.isSome = true := by
    unfold isPlain at hpl
    split at hpl
    · rename_i fn hfn
      simp only [Bool.and_eq_true, bne_iff_ne, ne_eq] at hpl
      exact ⟨fn, hfn, hpl.1, hpl.2⟩
    · cases hpl
  obtain ⟨fnF, hF1, hF2, hF3⟩ := hfn'
  have hF3' : ¬ fnF.body = none := fun h => by rw [h] at hF3; cases hF3
  refine ⟨L, [markOf D], W1, { target := .fn (.func f) ys, args := xs ++ #[u] }, W1, f, (xs ++ #[u]) ++ ys, W1, ?_, ?_, fun _ _ => trivial, ?_, fun h => (by cases h), (callsIn_Fw hcalls).mono ?_⟩
  · rw [← hW1, hrec, hD, hL]; exact run_enterLoop_outer _ _ _ _ _
  · simp [resolve, hu, Deferred.ofValue, u]
    rfl
  · simp [invoke, callFunc, hF1, hF2, hF3']
  -- behind it
  rintro e w3 ⟨FM', ρ', ⟨v, rfl, _⟩, ok3, go3⟩
  have hdl := hd1
  obtain rfl : ρ' = [pb] := by
    have hl1 : ρ'.length = 1 := by rw [ok3.rel.len, hdl]
    match ρ', hl1 with
    | [q], _ =>
      have := go3.sub 0 pb rfl
      cases this; rfl
  obtain ⟨m', hm⟩ : ∃ m', m' = stopF c N 0 := ⟨_, rfl⟩
  rw [← hm] at ok3 go3
  obtain ⟨okL, hmono⟩ := ok3.j
  obtain ⟨jR, hD3, hL3, ⟨fD, fL⟩, bD, bL⟩ := okL.j
  have okR := ok_of_loopR okL
  have hnb : (stJ jmp m').1 ≠ .busy := by
    cases m' with
    | zero => simp [stJ]
    | succ k => simp only [stJ]; split <;> simp
  have hend := run_endLoop (P := P) hL3 (by rw [hrec]; exact hnb)
  obtain ⟨p, w4, hend, hp, hw4⟩ : ∃ p w4, (Instr.endLoop L).run P w3 = .ok p w4 ∧ p = (stJ jmp m').2 ∧ w4 = w3.putObj L (.loop { rec (stJ jmp m').1 (stJ jmp m').2 with state := .exhausted }) := ⟨_, _, hend, by rw [hrec], rfl⟩
  refine ⟨p, w4, hend, ?_⟩
  have okR1 : Ok R (H m' ++ [.dead]) (G m') FM' ρ w3 := by
    have hgd : ∀ i, i < m → getO (H m' ++ [.dead]) i = getO (H m') i := fun i hi => getO_append_lt (by rw [hl]; exact hi)
    have hgdm : getO (H m' ++ [.dead]) m = .dead := by rw [getO_append_ge (by rw [hl]; exact Nat.le_refl _), hl, Nat.sub_self]; rfl
    have hback : ∀ i p, ρ[i]? = some p → (i < m ∧ ρ0[i]? = some p) ∨ (i = m ∧ p = pb) := fun i p hi => by
      have : i < m + 1 := by rw [← hρl]; exact (List.getElem?_eq_some_iff.1 hi).1
      rcases Nat.lt_or_ge i m with h | h
      · exact .inl ⟨h, by rw [hρ0, List.getElem?_take, if_pos h]; exact hi⟩
      · have : i = m := by omega
        subst this
        rw [hpb] at hi; cases hi
        exact .inr ⟨rfl, rfl⟩
    have hnl : ∀ i p, ρ[i]? = some p → isLive (getO (H m' ++ [.dead]) i) = true → i < m ∧ ρ0[i]? = some p := fun i p hi hv => by
      rcases hback i p hi with h | ⟨rfl, rfl⟩
      · exact h
      · rw [hgdm] at hv; cases hv
    refine ⟨⟨okR.rel.fm, by rw [hρl]; simp [hl], fun i p hi => ?_, fun i j p q hi hj hv1 hv2 e => ?_⟩, okR.j, fun b hb => ⟨(okR.bd b hb).1, fun hI => ?_⟩⟩
    · rcases hback i p hi with ⟨h1, h2⟩ | ⟨rfl, rfl⟩
      · obtain ⟨k1, k2⟩ := okR.rel.obj i p h2
        rw [hgd i h1]
        exact ⟨k1, objRel_sub hsub0 k2⟩
      · rw [hgdm]
        refine ⟨fun hre => ?_, trivial⟩
        have h1 := (hs.ok.rel.obj i p hi).1 hre
        have := go3.ext.size
        omega
    · obtain ⟨a1, a2⟩ := hnl i p hi hv1
      obtain ⟨b1, b2⟩ := hnl j q hj hv2
      rw [hgd i a1] at hv1
      rw [hgd j b1] at hv2
      exact okR.rel.inj i j p q a2 b2 hv1 hv2 e
    · rcases (hInB b).1 hI with h | h
      · exact (okR.bd b hb).2 h
      · exact (ok3.bd b (.inl (.inl hb))).2 h
  have ok4 := ok_put (.loop { rec (stJ jmp m').1 (stJ jmp m').2 with state := .exhausted }) (nIn L (by omega)) bL fL okR1
  have go4 : Goes R s.g FM ρ w (G m') FM' ρ (w3.putObj L (.loop { rec (stJ jmp m').1 (stJ jmp m').2 with state := .exhausted })) := by
    have hB0 : ∀ b, R2.B (G2 0) b → R.B s.g b ∨ w.heap.size ≤ b ∨ InB ρ0 b := fun b hb => by
      rcases hb with (hb | rfl | rfl) | hb
      · rw [show (G2 0).1.1 = s.g from hg0] at hb; exact .inl hb
      · exact .inr (.inl (by omega))
      · exact .inr (.inl (by omega))
      · exact .inr (.inr hb)
    refine ⟨⟨go3.ext.fm, fun b o hb => ?_, fun b hb => .inl hb, fun b h1 h2 h3 => ?_, ?_, go3.ext.os.trans go1.ext.os, go3.ext.tape.trans go1.ext.tape, go3.ext.output.trans go1.ext.output⟩, fun b hb => ?_, Sub.refl _⟩
    · rcases go3.ext.grow b o hb with h | h | h | h
      · exact .inl h
      · exact .inr (.inl (by omega))
      · exact .inr (.inr (.inl ((hInB b).2 (.inr h))))
      · rcases hB0 b h with h | h | h
        · exact .inr (.inr (.inr h))
        · exact .inr (.inl h)
        · exact .inr (.inr (.inl ((hInB b).2 (.inl h))))
    · rw [World.putObj_heap_other (by omega)]
      refine (go3.ext.keep b (by omega) (fun hI => h2 ((hInB b).2 (.inr hI))) (fun hb => ?_)).trans (go1.ext.keep b h1 h2 h3)
      rcases hB0 b hb with h | h | h
      · exact h3 h
      · omega
      · exact h2 ((hInB b).2 (.inl h))
    · have := go3.ext.size
      simp; omega
    · have hin : R2.B (G2 m') b := .inl (.inl hb)
      rcases go3.bn b hin with h | h
      · rcases hB0 b h with h | h | h
        · exact .inl h
        · exact .inr h
        · exact absurd h (okR.bd b hb).2
      · exact .inr (by omega)
  have hsat : Sat R C nt ⟨s.fr, H m' ++ [.dead], G m'⟩ FM' ρ { a with defers := [markOf D] ++ a.defers } (w3.putObj L (.loop { rec (stJ jmp m').1 (stJ jmp m').2 with state := .exhausted })) := by
    refine ⟨ok4, hs.goes.trans go4, hs.size, ?_, fun t => Den.mono go4.ext.fm _ go4.sub (hs.fr t)⟩
    obtain ⟨ms, e1, e2, e3, e4⟩ := hs.defs
    refine ⟨D :: ms, by rw [e1]; rfl, List.nodup_cons.2 ⟨fun hmem => ?_, e2⟩, fun h => ?_, fun X hX => ?_⟩
    · have := (Array.getElem?_eq_some_iff.1 (e4 D hmem).obj).1
      omega
    · rw [hC.2] at h; cases h
    · rcases List.mem_cons.1 hX with rfl | hX
      · exact ⟨(World.putObj_heap_other hne).trans hD3, nIn _ (by omega), bD, fD, by have := hs.goes.ext.size; omega⟩
      · exact (e4 X hX).goes go4
  rw [← hw4] at hsat
  rcases stopF_cases c N 0 with ⟨h1, h2⟩ | ⟨i, h1, h2, h3, h4, h5⟩
  · have hmN : m' = N := by omega
    have hall : ∀ k, k < N → jmp k = none := fun k hk => by simpa [c] using h1 k (by omega) (by omega)
    have e := hstJ m' (fun j hjm => h1 j (by omega) (by omega))
    have e2 : p = none := by rw [hp, e]
    subst e2
    rw [hmN] at hsat
    exact ⟨_, hdone hall, FM', ρ, hsat⟩
  · have hmi : m' = i + 1 := by omega
    have hall : ∀ k, k < i → jmp k = none := fun k hk => by simpa [c] using h3 k (by omega) hk
    have e2 : p = jmp i := by rw [hp, hmi]; rfl
    have hji := hj i
    rw [hmi] at hsat
    cases hc : jmp i with
    | none => simp [c, hc] at h4
    | some x =>
      rw [hc] at hji e2
      subst e2
      cases x <;> simp only [jOk] at hji <;> first | (cases hji; done) | skip
      · exact wpIn_exit ⟨_, hexit i _ (by omega) hall hc, FM', ρ, hsat⟩
      · exact wpIn_ret ⟨_, hret i (by omega) hall hc, FM', ρ, hsat⟩
def AssB (P : Program) (R : Res) (nt n l : Nat) (b : Code) (q : List Nat) (jmp : Option Code) (hp' : List AObj) (g' : R.σ) : AEx → St R.σ → Prop
  | .normal, s => Wp P R nt s.hp.length (.inr l) b q (RndQ R n jmp hp' g') s
  | _, _ => False
theorem wp_range1 {nt k0 : Nat} {b : Code} {p : List Nat} {Q : AEx → St R.σ → Prop} {s : St R.σ} (t : Nat) (psl : List Nat) (m : Nat) (hl : rangeAt t psl (sub b p) = true) {f : Nat} {fa fb : Nat → AV} {o : AObj} (hf : lk s.fr t = .fn f 0 fa 1 fb) (hfb : fb 0 = .ref m 0) (hpl : isPlain P f = true)
    {N : Nat} {items : Nat → List AV} {T : Mem → Prop} [Tab T R] (hseq : SeqO P f o N items T) (hlen : ∀ k, (items k).length = psl.length) (hlt : allLt psl nt = true) (hit : ∀ k, allB 0 (items k))
    (jmp : Nat → Option Code) (hj : ∀ k, jOk (jmp k) = true) (H : Nat → List AObj) (G : Nat → R.σ) (h0 : To R k0 s ⟨s.fr, H 0 ++ [o], G 0⟩) (hlH : ∀ k, (H k).length = m)
    (hlive : allLive (H 0 ++ [o])) (hBO : allBO m (H 0)) (hBo : allBO 0 [o]) (ts : List Nat) (hBf : allIn ts (fun t => Below m (lk s.fr t)))
    (hround : ∀ k l, k < N → (∀ j, j < k → jmp j = none) → Wp P R nt m (.inr l) b (p ++ [0]) (AssB P R nt m l b (p ++ [1]) (jmp k) (H (k + 1)) (G (k + 1))) ⟨setPs psl (items k) (slotsOf ts s.fr), H k, G k⟩)
    (hdone : (∀ k, k < N → jmp k = none) → Q .normal ⟨s.fr, H N ++ [.dead], G N⟩)
    (hret : ∀ k, k < N → (∀ j, j < k → jmp j = none) → jmp k = some .ret → Q .ret ⟨s.fr, H (k + 1) ++ [.dead], G (k + 1)⟩)
    (hexit : ∀ k id, k < N → (∀ j, j < k → jmp j = none) → jmp k = some (.exit id) → Q (.exit id) ⟨s.fr, H (k + 1) ++ [.dead], G (k + 1)⟩) :
    Wp P R nt k0 .top b p Q s := by
  obtain ⟨ps, assign, body, hc, rfl⟩ : ∃ ps assign body, sub b p = .rangeFunc (.tmp t) ps assign body ∧ ps.toList = psl := by
    unfold rangeAt at hl
    split at hl
    · rename_i u ps assign body hs
      simp only [Bool.and_eq_true] at hl
      have := Nat.eq_of_beq_eq_true hl.1
      subst this
      exact ⟨ps, assign, body, hs, eqPath_eq hl.2⟩
    · cases hl
  have e0 : sub b (p ++ [0]) = assign := by rw [sub_snoc, hc]; exact sub_nil assign
  have e1 : sub b (p ++ [1]) = body := by rw [sub_snoc, hc]; exact sub_nil body
  refine ⟨?_⟩
  rw [hc]
  refine wpA_to h0 (wpA_range1 (s := ⟨s.fr, H 0 ++ [o], G 0⟩) hf hfb hpl hseq hlen hlt hit jmp hj H G rfl rfl hlH hlive hBO hBo ts hBf (fun k hk hjk l => ?_) hdone hret hexit)
  have h1 := (hround k l hk hjk).h
  rw [e0] at h1
  rw [show (St.hp ⟨setPs ps.toList (items k) (slotsOf ts s.fr), H k, G k⟩).length = m from hlH k]
  refine wpA_conseq h1 (fun e s' hq => ?_)
  cases e with
  | normal =>
    have h2 := (show Wp _ _ _ _ _ _ _ _ _ from hq).h
    rw [e1] at h2
    exact ⟨rfl, h2⟩
  | exit id => exact hq.elim
  | ret => exact hq.elim
  | pan v => exact hq.elim
def condIs (v : Bool) : Code → Bool
  | .cond (.const (.bool u)) _ _ => u == v
  | _ => false
theorem wp_condK {nt k0 : Nat} {r : Rd} {b : Code} {p : List Nat} {Q : AEx → St R.σ → Prop} {s : St R.σ} (v : Bool) (hc : condIs v (sub b p) = true) (h : Wp P R nt k0 r b (p ++ [if v then 0 else 1]) Q s) : Wp P R nt k0 r b p Q s := by
  obtain ⟨x, y, hc⟩ : ∃ x y, sub b p = .cond (.const (.bool v)) x y := by
    unfold condIs at hc
    split at hc
    · rename_i u x y hs
      have := eq_of_beq hc
      subst this
      exact ⟨x, y, hs⟩
    · cases hc
  refine ⟨?_⟩
  rw [hc]
  have e0 : sub b (p ++ [0]) = x := by rw [sub_snoc, hc]; exact sub_nil x
  have e1 : sub b (p ++ [1]) = y := by rw [sub_snoc, hc]; exact sub_nil y
  have h1 := h.h
  intro C hC n a w hs
  cases v with
  | true =>
    refine wpIn_cond_split (t := true) rfl (fun _ => ?_) (fun h => by cases h)
    rw [← e0]; exact h1 C hC n a w hs
  | false =>
    refine wpIn_cond_split (t := false) rfl (fun h => by cases h) (fun _ => ?_)
    rw [← e1]; exact h1 C hC n a w hs
def isTab (P : Program) (t n : Nat) : Bool := match tyOf P t with
  | some ti => match ti.desc with
    | .array m e => Nat.beq m n && (match tyOf P e with
      | some ei => Nat.beq ei.size 1
      | none => false)
    | _ => false
  | none => false
theorem opOk_tabAt {gs : List (Nat × List Int)} [hT : Tab (Tabs gs) R] {o : Oper} {ev : Operand → AV} {hp : List AObj} {g : R.σ} (b : Nat) (zs : List Int) (hb : (b, zs) ∈ gs) (hg : ev (.global b) = .val (.pointer (some ⟨b, 0, none⟩))) {t : TypeId} {y : Operand} {k : IntKind} {i v : Int}
    (ho : o.op = .indexAddr t (.global b) y) (hng : isGlob b y = false) (hi : ev y = .int k i) (hT0 : isTab P t zs.length = true) (h0 : 0 ≤ i) (h1 : i < zs.length) (hv : zs.getD i.toNat 0 = v) :
    OpOk P R o ev hp g (.fp 1 (fun _ => .int .u8 v)) hp g := by
  obtain ⟨ti, e, ei, ht, hd, he, hs⟩ : ∃ ti e ei, tyOf P t = some ti ∧ ti.desc = .array zs.length e ∧ tyOf P e = some ei ∧ ei.size = 1 := by
    unfold isTab at hT0
    split at hT0
    · rename_i ti hti
      split at hT0
      · rename_i m e hd
        simp only [Bool.and_eq_true] at hT0
        obtain ⟨h1, h2⟩ := hT0
        split at h2
        · rename_i ei hei
          exact ⟨ti, e, ei, hti, by rw [hd, Nat.eq_of_beq_eq_true h1], hei, Nat.eq_of_beq_eq_true h2⟩
        · cases h2
      · cases hT0
    · cases hT0
  have hi' : evTab b zs ev y = .int k i := by unfold evTab; rw [hng]; exact hi
  have hx' : evTab b zs ev (.global b) = .fp zs.length (fun j => .int .u8 (zs.getD j 0)) := by unfold evTab isGlob; simp
  refine opOk_tab (gs := gs) b zs hb hg (out := ⟨.fp (zs.length - i.toNat * ei.size) (shG (offs 0 i.toNat ei.size) (fun j => .int .u8 (zs.getD j 0))), hp, [0 ≤ i ∧ i < (zs.length : Int)], .pure⟩) ?_ ⟨⟨h0, h1⟩, trivial⟩ ?_
  · rw [ho]
    simp only [runPure, runPure0, ht, hi', hd, hx', he]
    rfl
  · rintro FM ρ w ⟨b', off, e1, h2⟩
    refine ⟨b', off, e1, fun j hj => ?_⟩
    have : j = 0 := by omega
    subst this
    have h3 := h2 0 (by rw [hs]; omega)
    rw [hs] at h3
    have e4 : shG (offs 0 i.toNat 1) (fun j => AV.int .u8 (zs.getD j 0)) 0 = .int .u8 v := by
      rw [← hv]
      unfold shG offs
      simp
    rw [e4] at h3
    exact h3
theorem opOk_le {o : Oper} {ev : Operand → AV} {hp : List AObj} {g : R.σ} {x : AV} {out : Out} (h : runPure (tyOf P) hp ev .none o.op = some out) (hob : AllP out.ob) (hx : Le out.v x) : OpOk P R o ev hp g x hp g := by
  refine ⟨fun FM ρ w evc okw hop => ?_⟩
  classical
  let ev' : Operand → AV := fun y => if y ∈ o.op.operands then ev y else .any
  have hev' : ∀ y, Den FM ρ (ev' y) (evc y) := by
    intro y
    by_cases hy : y ∈ o.op.operands
    · simp only [ev', hy, if_true]; exact hop y hy
    · simp only [ev', hy, if_false]; trivial
  have hsame : ∀ y ∈ o.op.operands, ev y = ev' y := fun y hy => by simp only [ev', hy, if_true]
  rw [runPure_ev hsame] at h
  obtain ⟨⟨v, h1, h2⟩, h3⟩ := runPure_sound okw.rel hev' h hob
  exact ⟨_, w, FM, ρ, v, h1, rfl, hx _ _ _ h2, okw, ⟨Ext.refl _ _ _ _, fun _ h => .inl h, Sub.refl _⟩⟩
end
end Go.Avm
namespace Go.Avm
open Go
variable {P : Program} {R : Res}
theorem run_items {e : TypeId} {k : IntKind} (he : P.underlying e = some (.int k)) {FM : Mem} {ρ : Plc} {n : Nat} {a b : Nat → Int} {xs ys : Array Value} (hx : xs.size = n) (hy : ys.size = n) (hdx : ∀ j, j < n → Den FM ρ (.int k (a j)) (xs.getD j undef)) (hdy : ∀ j, j < n → Den FM ρ (.int k (b j)) (ys.getD j undef)) (d : Nat) (w : World) :
    ∀ is : List Nat, (∀ i, i ∈ is → i < n) → (Op.eqItems (d + 1) e 1 xs ys is).run P w = .ok (is.all fun i => a i == b i) w
  | [], _ => rfl
  | i :: is, h => by
    have hi : i < n := h i List.mem_cons_self
    have ih := run_items he hx hy hdx hdy d w is (fun j hj => h j (List.mem_cons_of_mem _ hj))
    have heq := eqCell_val (x := .int k (a i)) (y := .int k (b i)) (r := a i == b i) he (by simp [eqCell]) (hdx i hi) (hdy i hi) d w
    have p1 := run_part_scalar (P := P) he rfl xs i (by omega) w
    have p2 := run_part_scalar (P := P) he rfl ys i (by omega) w
    simp only [Op.eqItems, Sem.run_bind, Nat.mul_one]
    rw [p1]
    simp only [Result.andThen_ok]
    rw [p2]
    simp only [Result.andThen_ok, heq]
    cases hb : (a i == b i)
    · simp [hb]
    · simp only [Bool.not_true, Bool.false_eq_true, if_false, List.all_cons, hb, Bool.true_and]
      exact ih
theorem opOk_eqArr {o : Oper} {ev : Operand → AV} {hp : List AObj} {g : R.σ} {t t2 e : TypeId} {x y : Operand} {k : IntKind} {n : Nat} {a b : Nat → Int} (ho : o.op = .binOp .eql t x y t2) (hx : ev x = .agg n (fun j => .int k (a j))) (hy : ev y = .agg n (fun j => .int k (b j)))
    (hu : P.underlying t = some (.array n e)) (he : P.underlying e = some (.int k)) (hi : (P.info? e).isSome = true) (hc : P.cellsOf e = 1) (hg : P.eqGuardType P.depth t = false) : OpOk P R o ev hp g (.bool (decide (∀ j, j < n → a j = b j))) hp g := by
  refine ⟨fun FM ρ w evc okw hop => ?_⟩
  obtain ⟨i, hi⟩ := Option.isSome_iff_exists.1 hi
  have h1 := hop x (by simp [ho, Op.operands])
  have h2 := hop y (by simp [ho, Op.operands])
  rw [hx] at h1
  rw [hy] at h2
  obtain ⟨cs, e1, s1, c1⟩ := h1
  obtain ⟨ds, e2, s2, c2⟩ := h2
  have hitems := run_items (P := P) he s1 s2 (fun j hj => (c1 j hj).2) (fun j hj => (c2 j hj).2) 9998 w (List.range n) (fun j hj => by simpa using hj)
  have hr : ((List.range n).all fun i => a i == b i) = decide (∀ j, j < n → a j = b j) := by
    rw [Bool.eq_iff_iff, decide_eq_true_iff, List.all_eq_true]
    exact ⟨fun h j hj => by simpa using h j (by simpa using hj), fun h j hj => by simpa using h j (by simpa using hj)⟩
  have hq : (Op.equal t (.agg cs) (.agg ds)).run P w = .ok (decide (∀ j, j < n → a j = b j)) w := by
    show (Op.equalIn (9999 + 1) t (.agg cs) (.agg ds)).run P w = _
    rw [run_equalIn_array w 9999 cs ds hu hi, hc, ← hr]
    exact hitems
  have hgd := run_eqGuard_agg (P := P) w .eql t x y cs ds hg
  refine ⟨.value (.bool (decide (∀ j, j < n → a j = b j))), w, FM, ρ, .bool (decide (∀ j, j < n → a j = b j)), ?_, rfl, rfl, okw, Goes.refl _ _ _ _ _⟩
  have hb := binOp_eql t (v := .agg cs) (u := .agg ds) (by simp) (by simp) (by simp) (by simp)
  simp [execOp, ho, e1, e2, hgd, hb, hq]
end Go.Avm
namespace Go.Avm
open Go
variable {P : Program} {R : Res}
def isOne (P : Program) (t : Nat) : Bool := match tyOf P t with
  | some ti => !ti.agg && Nat.beq ti.size 1
  | none => false
end Go.Avm
namespace Go.Avm.Pack
open Go Go.Avm Go.Proofs
open Go.IntKind (i64 u64)
open Go.Avm.AV (int bool any fz fp sl ow ref fn ifc val agg tup)
open Go.Avm.AObj (cells dead)
open Go.Avm.Oc (ret)
set_option maxRecDepth 4000
structure Rng where
  pack : Int
  low : Int
  high : Int
  deriving Inhabited, DecidableEq
instance : Inhabited Fz := ⟨.nil⟩
structure KL (α : Type) where
  l : List α
  k : Fz
  deriving Inhabited
structure Rel where
  needs : KL Rng
  bars : KL Rng
  deriving Inhabited
abbrev Ix := KL (KL Rel)
def rngC (r : Rng) : Nat → AV := nth [.int .i64 r.pack, .int .i64 r.low, .int .i64 r.high]
def encRng (r : Rng) : AV := .agg 3 (nth [.int .i64 r.pack, .int .i64 r.low, .int .i64 r.high])
def encR (x : KL Rng) : AV := .fz x.k 3 x.l.length (fun i => rngC (x.l.getD i default))
def encI (x : KL Int) : AV := .fz x.k 1 x.l.length (fun i _ => .int .i64 (x.l.getD i 0))
def relC (r : Rel) : Nat → AV := nth [encR r.needs, encR r.bars]
def encRel (r : Rel) : AV := .agg 2 (nth [encR r.needs, encR r.bars])
def encRels (x : KL Rel) : AV := .fz x.k 2 x.l.length (fun i => relC (x.l.getD i default))
def encPacks (x : Ix) : AV := .fz x.k 1 x.l.length (fun i _ => encRels (x.l.getD i default))
def encIx (x : Ix) : AV := .agg 1 (nth [encPacks x])
def encMkt (x : Ix) (gl : KL Rng) : AV := .agg 2 (nth [encPacks x, encR gl])
def encPlan (p : Nat → Int) : AV := .agg 8 (fun j => .int .i64 (p j))
structure Clause where
  pack : Int
  rel : Int
  bar : Bool
  which : Int
  deriving Inhabited, DecidableEq
def clC (c : Clause) : Nat → AV := nth [.int .i64 c.pack, .int .i64 c.rel, .bool c.bar, .int .i64 c.which]
def encCl (c : Clause) : AV := .agg 4 (nth [.int .i64 c.pack, .int .i64 c.rel, .bool c.bar, .int .i64 c.which])
def encC (x : KL Clause) : AV := .fz x.k 4 x.l.length (fun i => clC (x.l.getD i default))
theorem below_encRng (r : Rng) : Below 0 (encRng r) := ⟨⟨⟨trivial, trivial⟩, trivial⟩, trivial⟩
theorem below_encCl (r : Clause) : Below 0 (encCl r) := ⟨⟨⟨⟨trivial, trivial⟩, trivial⟩, trivial⟩, trivial⟩
theorem below_encRel (r : Rel) : Below 0 (encRel r) := ⟨⟨trivial, trivial⟩, trivial⟩
theorem c_within (R : Res) (n lo hi : Int) (hp : List AObj) (g : R.σ) : Does Tryd.prog R 41 [.int .i64 n, .int .i64 lo, .int .i64 hi] hp g (.ret (.bool (decide (lo ≤ n ∧ n ≤ hi)))) hp g := by
  refine does_any' (fun R g => ?_) (by exact ⟨trivial, ⟨trivial, ⟨trivial, trivial⟩⟩⟩) R hp g
  refine spec_of_wp (nt := 15) (rs := [.tmp 6]) (k0 := 0) (by kernel_rfl) (by kernel_rfl) (by kernel_rfl) rfl ?_
  refine vcQ [] (lkL [(0, [0, 1, 2]), (1, [6])]) (fun _ => []) (fun (Q : AEx → St R.σ → Prop) => Q AEx.ret (St.mk [(6, AV.bool (bif decide (n ≥ lo) then decide (n ≤ hi) else false))] [] g)) (fun _ => by kernel_rfl) (?_)
  refine (retQ_le (retQ_same' _ _ rfl trivial rfl rfl rfl) (Le.of_eq ?_))
  show (AV.bool (bif decide (n ≥ lo) then decide (n ≤ hi) else false)) = _
  show AV.bool _ = _
  by_cases h : lo ≤ n <;> simp [h]
end Go.Avm.Pack
namespace Go.Avm.Pack
open Go Go.Avm Go.Proofs
open Go.IntKind (i64 u64)
open Go.Avm.AV (int bool any fz fp sl ow ref fn ifc val agg tup)
open Go.Avm.AObj (cells dead)
open Go.Avm.Oc (ret)
set_option maxRecDepth 4000
def idxFrom {α : Type} (q : α → Bool) : List α → Nat → Int
  | [], _ => -1
  | x :: r, i => if q x then i else idxFrom q r (i + 1)
theorem idxFrom_any {α : Type} (q : α → Bool) : ∀ (l : List α) (i : Nat), decide (idxFrom q l i ≥ 0) = l.any q := by
  intro l
  induction l with
  | nil => intro i; simp [idxFrom]
  | cons x r ih =>
    intro i
    unfold idxFrom
    cases hq : q x with
    | true => simp [hq]
    | false => simp only [List.any_cons, hq, Bool.false_or]; exact ih (i + 1)
theorem getD_drop {α : Type} (l : List α) (d : α) {i : Nat} (h : i < l.length) : l.drop i = l.getD i d :: l.drop (i + 1) := by
  rw [List.drop_eq_getElem_cons h]
  simp [List.getD, h]
theorem getD_mem {α : Type} (l : List α) (d : α) {i : Nat} (h : i < l.length) : l.getD i d ∈ l := by
  simp [List.getD, h]
theorem c_IndexFunc_PackRange (R : Res) (l : KL Rng) (u : Value) (q : Rng → Bool) (g : R.σ) (hl : l.l.length < 1000000)
    (hu : ∀ r, r ∈ l.l → ∀ hp, VDoes Tryd.prog R u [encRng r] hp g (.ret (.bool (q r))) hp g) :
    Does Tryd.prog R 65 [encR l, .val u] [] g (.ret (.int .i64 (idxFrom q l.l 0))) [] g := by
  refine spec_of_wp (nt := 19) (rs := [.tmp 4]) (k0 := 0) (by kernel_rfl) (by kernel_rfl) (by kernel_rfl) rfl ?_
  refine vcQ [] (lkL [(0, [0, 1]), (1, [0, 1, 7, 8])]) (fun _ => []) (fun (Q : AEx → St R.σ → Prop) => Wp Tryd.prog R 19 0 Rd.top (bodyOf Tryd.prog 65) [1, 0, 1, 0] (contQ Tryd.prog R 19 0 Rd.top (bodyOf Tryd.prog 65) Q [Kont.blk 0, Kont.seq [1, 1]]) (St.mk [(0, encR l), (1, val u), (7, int i64 (↑(List.length l.l) : Int)), (8, int i64 0)] [] g)) (fun _ => by kernel_rfl) (?_)
  refine (wp_loop (by kernel_rfl) (fun (i : Nat) => ⟨[(0, encR l), (1, val u), (7, int i64 (↑(List.length l.l) : Int)), (8, .int .i64 (i : Int))], [], g⟩) (fun (i : Nat) => (i ≤ l.l.length ∧ idxFrom q l.l 0 = idxFrom q (l.l.drop i) i)) (fun (i : Nat) => (l.l.length - i)) 0 (to_fr ⟨(Le.refl _), ⟨(Le.refl _), ⟨(Le.refl _), ⟨(Le.of_eq (by kernel_rfl)), trivial⟩⟩⟩⟩ rfl rfl) ?_ (fun i hi => ?_))
  · exact ⟨Nat.zero_le _, rfl⟩
  · obtain ⟨h1, h2⟩ := hi
    refine vcQ [] (lkL [(2, [0, 1, 7, 8, 9]), (3, [0, 1, 5, 7, 8]), (4, [0, 1, 5, 7, 8, 16]), (5, [4]), (6, [0, 1, 7, 8])]) (lkL [(4, [(5, ROrc.kcall (AV.bool (q (List.getD l.l i default))))])]) (fun (Q : AEx → St R.σ → Prop) => (decide ((↑i : Int) < (↑(List.length l.l) : Int)) = true → (0 ≤ (↑i : Int) ∧ (↑i : Int) < (↑(List.length l.l) : Int)) ∧ 3 ≤ 3 ∧ VDoes Tryd.prog R u [encRng (List.getD l.l i default)] [] g (ret (AV.bool (q (List.getD l.l i default)))) [] g ∧ (q (List.getD l.l i default) = true → Q AEx.ret (St.mk [(4, int i64 (↑i : Int))] [] g)) ∧ (q (List.getD l.l i default) = false → (-9223372036854775808 ≤ (↑i : Int) + 1 ∧ (↑i : Int) + 1 ≤ 9223372036854775807) ∧ Q AEx.normal (St.mk [(0, encR l), (1, val u), (7, int i64 (↑(List.length l.l) : Int)), (8, int i64 ((↑i : Int) + 1))] [] g))) ∧ (decide ((↑i : Int) < (↑(List.length l.l) : Int)) = false → Q (AEx.exit 0) (St.mk [(0, encR l), (1, val u), (7, int i64 (↑(List.length l.l) : Int)), (8, int i64 (↑i : Int)), (9, AV.bool (decide ((↑i : Int) < (↑(List.length l.l) : Int))))] [] g))) (fun _ => by kernel_rfl) ⟨fun c1 => have c1 : (↑i : Int) < (↑(List.length l.l) : Int) := (of_decide_eq_true c1); ⟨(by omega), ⟨(by omega), ⟨(hu _ ?_ _), ⟨fun c2 => ?_, fun c2 => ⟨(by omega), ?_⟩⟩⟩⟩⟩, fun c1 => have c1 : ¬(↑i : Int) < (↑(List.length l.l) : Int) := (of_decide_eq_false c1); ?_⟩
    · exact getD_mem l.l default (by omega)
    · refine ⟨_, To.refl _, (retQ_le (retQ_same' _ _ rfl trivial rfl rfl rfl) (Le.of_eq ?_))⟩
      show (int i64 (↑i : Int)) = _
      show AV.int _ _ = AV.int _ _
      rw [h2, getD_drop l.l default (by omega)]; unfold idxFrom; rw [if_pos c2]
    · refine (next_round (i + 1) (to_fr ⟨(Le.refl _), ⟨(Le.refl _), ⟨(Le.refl _), ⟨(Le.of_eq (by kernel_rfl)), trivial⟩⟩⟩⟩ rfl rfl) ?_ ?_)
      · refine ⟨by omega, ?_⟩
        rw [h2, getD_drop l.l default (by omega)]; conv => lhs; unfold idxFrom
        rw [c2]; rfl
      · omega
    · refine ⟨_, To.refl _, vcQ [] (lkL [(7, [4])]) (fun _ => []) (fun (Q : AEx → St R.σ → Prop) => Q AEx.ret (St.mk [(4, int i64 (-1))] [] g)) (fun _ => by kernel_rfl) (?_)⟩
      refine (retQ_le (retQ_same' _ _ rfl trivial rfl rfl rfl) (Le.of_eq ?_))
      show (int i64 (-1)) = _
      show AV.int _ _ = AV.int _ _
      rw [h2, List.drop_eq_nil_of_le (by omega)]; rfl
theorem c_ContainsFunc_PackRange (R : Res) (l : KL Rng) (u : Value) (q : Rng → Bool) (g : R.σ) (hl : l.l.length < 1000000)
    (hu : ∀ r, r ∈ l.l → ∀ hp, VDoes Tryd.prog R u [encRng r] hp g (.ret (.bool (q r))) hp g) :
    Does Tryd.prog R 24 [encR l, .val u] [] g (.ret (.bool (l.l.any q))) [] g := by
  refine spec_of_wp (nt := 9) (rs := [.tmp 4]) (k0 := 0) (by kernel_rfl) (by kernel_rfl) (by kernel_rfl) rfl ?_
  refine vcQ [] (lkL [(0, [0, 1]), (1, [4])]) (lkL [(1, [(2, ROrc.kcall (int i64 (idxFrom q l.l 0)))])]) (fun (Q : AEx → St R.σ → Prop) => (true = true ∧ Does Tryd.prog R 65 [encR l, val u] [] g (ret (int i64 (idxFrom q l.l 0))) [] g) ∧ Q AEx.ret (St.mk [(4, AV.bool (decide (idxFrom q l.l 0 ≥ 0)))] [] g)) (fun _ => by kernel_rfl) ⟨⟨rfl, (Go.Avm.Pack.c_IndexFunc_PackRange _ _ _ _ _ (by omega) (fun _ _ _ => hu _ (by omega) _))⟩, ?_⟩
  refine (retQ_le (retQ_same' _ _ rfl trivial rfl rfl rfl) (Le.of_eq ?_))
  show (AV.bool (decide (idxFrom q l.l 0 ≥ 0))) = _
  show AV.bool _ = AV.bool _
  rw [idxFrom_any]
theorem c_ContainsFuncF_PackRange (R : Res) (l : KL Rng) (f na nb : Nat) (a b : Nat → AV) (q : Rng → Bool) (hp : List AObj) (g : R.σ) (hl : l.l.length < 1000000) (hpl : isPlain Tryd.prog f = true)
    (h : ∀ r, r ∈ l.l → Does Tryd.prog R f (tab na 0 a ++ [encRng r] ++ tab nb 0 b) hp g (.ret (.bool (q r))) hp g) :
    Does Tryd.prog R 24 [encR l, .fn f na a nb b] hp g (.ret (.bool (l.l.any q))) hp g :=
  does_fn (pre := [encR l]) (D := fun r => r ∈ l.l) (args := fun r => [encRng r]) (oc1 := fun r => .ret (.bool (q r))) ⟨trivial, trivial⟩ hpl (fun r => ⟨below_encRng r, trivial⟩) (fun _ => trivial) h
    (fun R' g' u hu => c_ContainsFunc_PackRange R' l u q g' hl hu)
theorem c_IndexFunc_PackRelease (R : Res) (l : KL Rel) (u : Value) (q : Rel → Bool) (g : R.σ) (hl : l.l.length < 1000000)
    (hu : ∀ r, r ∈ l.l → ∀ hp, VDoes Tryd.prog R u [encRel r] hp g (.ret (.bool (q r))) hp g) :
    Does Tryd.prog R 104 [encRels l, .val u] [] g (.ret (.int .i64 (idxFrom q l.l 0))) [] g := by
  refine spec_of_wp (nt := 19) (rs := [.tmp 4]) (k0 := 0) (by kernel_rfl) (by kernel_rfl) (by kernel_rfl) rfl ?_
  refine vcQ [] (lkL [(0, [0, 1]), (1, [0, 1, 7, 8])]) (fun _ => []) (fun (Q : AEx → St R.σ → Prop) => Wp Tryd.prog R 19 0 Rd.top (bodyOf Tryd.prog 104) [1, 0, 1, 0] (contQ Tryd.prog R 19 0 Rd.top (bodyOf Tryd.prog 104) Q [Kont.blk 0, Kont.seq [1, 1]]) (St.mk [(0, encRels l), (1, val u), (7, int i64 (↑(List.length l.l) : Int)), (8, int i64 0)] [] g)) (fun _ => by kernel_rfl) (?_)
  refine (wp_loop (by kernel_rfl) (fun (i : Nat) => ⟨[(0, encRels l), (1, val u), (7, int i64 (↑(List.length l.l) : Int)), (8, .int .i64 (i : Int))], [], g⟩) (fun (i : Nat) => (i ≤ l.l.length ∧ idxFrom q l.l 0 = idxFrom q (l.l.drop i) i)) (fun (i : Nat) => (l.l.length - i)) 0 (to_fr ⟨(Le.refl _), ⟨(Le.refl _), ⟨(Le.refl _), ⟨(Le.of_eq (by kernel_rfl)), trivial⟩⟩⟩⟩ rfl rfl) ?_ (fun i hi => ?_))
  · exact ⟨Nat.zero_le _, rfl⟩
  · obtain ⟨h1, h2⟩ := hi
    refine vcQ [] (lkL [(2, [0, 1, 7, 8, 9]), (3, [0, 1, 5, 7, 8]), (4, [0, 1, 5, 7, 8, 16]), (5, [4]), (6, [0, 1, 7, 8])]) (lkL [(4, [(5, ROrc.kcall (AV.bool (q (List.getD l.l i default))))])]) (fun (Q : AEx → St R.σ → Prop) => (decide ((↑i : Int) < (↑(List.length l.l) : Int)) = true → (0 ≤ (↑i : Int) ∧ (↑i : Int) < (↑(List.length l.l) : Int)) ∧ 2 ≤ 2 ∧ VDoes Tryd.prog R u [encRel (List.getD l.l i default)] [] g (ret (AV.bool (q (List.getD l.l i default)))) [] g ∧ (q (List.getD l.l i default) = true → Q AEx.ret (St.mk [(4, int i64 (↑i : Int))] [] g)) ∧ (q (List.getD l.l i default) = false → (-9223372036854775808 ≤ (↑i : Int) + 1 ∧ (↑i : Int) + 1 ≤ 9223372036854775807) ∧ Q AEx.normal (St.mk [(0, encRels l), (1, val u), (7, int i64 (↑(List.length l.l) : Int)), (8, int i64 ((↑i : Int) + 1))] [] g))) ∧ (decide ((↑i : Int) < (↑(List.length l.l) : Int)) = false → Q (AEx.exit 0) (St.mk [(0, encRels l), (1, val u), (7, int i64 (↑(List.length l.l) : Int)), (8, int i64 (↑i : Int)), (9, AV.bool (decide ((↑i : Int) < (↑(List.length l.l) : Int))))] [] g))) (fun _ => by kernel_rfl) ⟨fun c1 => have c1 : (↑i : Int) < (↑(List.length l.l) : Int) := (of_decide_eq_true c1); ⟨(by omega), ⟨(by omega), ⟨(hu _ ?_ _), ⟨fun c2 => ?_, fun c2 => ⟨(by omega), ?_⟩⟩⟩⟩⟩, fun c1 => have c1 : ¬(↑i : Int) < (↑(List.length l.l) : Int) := (of_decide_eq_false c1); ?_⟩
    · exact getD_mem l.l default (by omega)
    · refine ⟨_, To.refl _, (retQ_le (retQ_same' _ _ rfl trivial rfl rfl rfl) (Le.of_eq ?_))⟩
      show (int i64 (↑i : Int)) = _
      show AV.int _ _ = AV.int _ _
      rw [h2, getD_drop l.l default (by omega)]; unfold idxFrom; rw [if_pos c2]
    · refine (next_round (i + 1) (to_fr ⟨(Le.refl _), ⟨(Le.refl _), ⟨(Le.refl _), ⟨(Le.of_eq (by kernel_rfl)), trivial⟩⟩⟩⟩ rfl rfl) ?_ ?_)
      · refine ⟨by omega, ?_⟩
        rw [h2, getD_drop l.l default (by omega)]; conv => lhs; unfold idxFrom
        rw [c2]; rfl
      · omega
    · refine ⟨_, To.refl _, vcQ [] (lkL [(7, [4])]) (fun _ => []) (fun (Q : AEx → St R.σ → Prop) => Q AEx.ret (St.mk [(4, int i64 (-1))] [] g)) (fun _ => by kernel_rfl) (?_)⟩
      refine (retQ_le (retQ_same' _ _ rfl trivial rfl rfl rfl) (Le.of_eq ?_))
      show (int i64 (-1)) = _
      show AV.int _ _ = AV.int _ _
      rw [h2, List.drop_eq_nil_of_le (by omega)]; rfl
theorem c_ContainsFunc_PackRelease (R : Res) (l : KL Rel) (u : Value) (q : Rel → Bool) (g : R.σ) (hl : l.l.length < 1000000)
    (hu : ∀ r, r ∈ l.l → ∀ hp, VDoes Tryd.prog R u [encRel r] hp g (.ret (.bool (q r))) hp g) :
    Does Tryd.prog R 93 [encRels l, .val u] [] g (.ret (.bool (l.l.any q))) [] g := by
  refine spec_of_wp (nt := 9) (rs := [.tmp 4]) (k0 := 0) (by kernel_rfl) (by kernel_rfl) (by kernel_rfl) rfl ?_
  refine vcQ [] (lkL [(0, [0, 1]), (1, [4])]) (lkL [(1, [(2, ROrc.kcall (int i64 (idxFrom q l.l 0)))])]) (fun (Q : AEx → St R.σ → Prop) => (true = true ∧ Does Tryd.prog R 104 [encRels l, val u] [] g (ret (int i64 (idxFrom q l.l 0))) [] g) ∧ Q AEx.ret (St.mk [(4, AV.bool (decide (idxFrom q l.l 0 ≥ 0)))] [] g)) (fun _ => by kernel_rfl) ⟨⟨rfl, (Go.Avm.Pack.c_IndexFunc_PackRelease _ _ _ _ _ (by omega) (fun _ _ _ => hu _ (by omega) _))⟩, ?_⟩
  refine (retQ_le (retQ_same' _ _ rfl trivial rfl rfl rfl) (Le.of_eq ?_))
  show (AV.bool (decide (idxFrom q l.l 0 ≥ 0))) = _
  show AV.bool _ = AV.bool _
  rw [idxFrom_any]
theorem c_ContainsFuncF_PackRelease (R : Res) (l : KL Rel) (f na nb : Nat) (a b : Nat → AV) (q : Rel → Bool) (hp : List AObj) (g : R.σ) (hl : l.l.length < 1000000) (hpl : isPlain Tryd.prog f = true)
    (h : ∀ r, r ∈ l.l → Does Tryd.prog R f (tab na 0 a ++ [encRel r] ++ tab nb 0 b) hp g (.ret (.bool (q r))) hp g) :
    Does Tryd.prog R 93 [encRels l, .fn f na a nb b] hp g (.ret (.bool (l.l.any q))) hp g :=
  does_fn (pre := [encRels l]) (D := fun r => r ∈ l.l) (args := fun r => [encRel r]) (oc1 := fun r => .ret (.bool (q r))) ⟨trivial, trivial⟩ hpl (fun r => ⟨below_encRel r, trivial⟩) (fun _ => trivial) h
    (fun R' g' u hu => c_ContainsFunc_PackRelease R' l u q g' hl hu)
theorem c_IndexFunc_PackClause (R : Res) (l : KL Clause) (u : Value) (q : Clause → Bool) (g : R.σ) (hl : l.l.length < 1000000)
    (hu : ∀ r, r ∈ l.l → ∀ hp, VDoes Tryd.prog R u [encCl r] hp g (.ret (.bool (q r))) hp g) :
    Does Tryd.prog R 100 [encC l, .val u] [] g (.ret (.int .i64 (idxFrom q l.l 0))) [] g := by
  refine spec_of_wp (nt := 19) (rs := [.tmp 4]) (k0 := 0) (by kernel_rfl) (by kernel_rfl) (by kernel_rfl) rfl ?_
  refine vcQ [] (lkL [(0, [0, 1]), (1, [0, 1, 7, 8])]) (fun _ => []) (fun (Q : AEx → St R.σ → Prop) => Wp Tryd.prog R 19 0 Rd.top (bodyOf Tryd.prog 100) [1, 0, 1, 0] (contQ Tryd.prog R 19 0 Rd.top (bodyOf Tryd.prog 100) Q [Kont.blk 0, Kont.seq [1, 1]]) (St.mk [(0, encC l), (1, val u), (7, int i64 (↑(List.length l.l) : Int)), (8, int i64 0)] [] g)) (fun _ => by kernel_rfl) (?_)
  refine (wp_loop (by kernel_rfl) (fun (i : Nat) => ⟨[(0, encC l), (1, val u), (7, int i64 (↑(List.length l.l) : Int)), (8, .int .i64 (i : Int))], [], g⟩) (fun (i : Nat) => (i ≤ l.l.length ∧ idxFrom q l.l 0 = idxFrom q (l.l.drop i) i)) (fun (i : Nat) => (l.l.length - i)) 0 (to_fr ⟨(Le.refl _), ⟨(Le.refl _), ⟨(Le.refl _), ⟨(Le.of_eq (by kernel_rfl)), trivial⟩⟩⟩⟩ rfl rfl) ?_ (fun i hi => ?_))
  · exact ⟨Nat.zero_le _, rfl⟩
  · obtain ⟨h1, h2⟩ := hi
    refine vcQ [] (lkL [(2, [0, 1, 7, 8, 9]), (3, [0, 1, 5, 7, 8]), (4, [0, 1, 5, 7, 8, 16]), (5, [4]), (6, [0, 1, 7, 8])]) (lkL [(4, [(5, ROrc.kcall (AV.bool (q (List.getD l.l i default))))])]) (fun (Q : AEx → St R.σ → Prop) => (decide ((↑i : Int) < (↑(List.length l.l) : Int)) = true → (0 ≤ (↑i : Int) ∧ (↑i : Int) < (↑(List.length l.l) : Int)) ∧ 4 ≤ 4 ∧ VDoes Tryd.prog R u [encCl (List.getD l.l i default)] [] g (ret (AV.bool (q (List.getD l.l i default)))) [] g ∧ (q (List.getD l.l i default) = true → Q AEx.ret (St.mk [(4, int i64 (↑i : Int))] [] g)) ∧ (q (List.getD l.l i default) = false → (-9223372036854775808 ≤ (↑i : Int) + 1 ∧ (↑i : Int) + 1 ≤ 9223372036854775807) ∧ Q AEx.normal (St.mk [(0, encC l), (1, val u), (7, int i64 (↑(List.length l.l) : Int)), (8, int i64 ((↑i : Int) + 1))] [] g))) ∧ (decide ((↑i : Int) < (↑(List.length l.l) : Int)) = false → Q (AEx.exit 0) (St.mk [(0, encC l), (1, val u), (7, int i64 (↑(List.length l.l) : Int)), (8, int i64 (↑i : Int)), (9, AV.bool (decide ((↑i : Int) < (↑(List.length l.l) : Int))))] [] g))) (fun _ => by kernel_rfl) ⟨fun c1 => have c1 : (↑i : Int) < (↑(List.length l.l) : Int) := (of_decide_eq_true c1); ⟨(by omega), ⟨(by omega), ⟨(hu _ ?_ _), ⟨fun c2 => ?_, fun c2 => ⟨(by omega), ?_⟩⟩⟩⟩⟩, fun c1 => have c1 : ¬(↑i : Int) < (↑(List.length l.l) : Int) := (of_decide_eq_false c1); ?_⟩
    · exact getD_mem l.l default (by omega)
    · refine ⟨_, To.refl _, (retQ_le (retQ_same' _ _ rfl trivial rfl rfl rfl) (Le.of_eq ?_))⟩
      show (int i64 (↑i : Int)) = _
      show AV.int _ _ = AV.int _ _
      rw [h2, getD_drop l.l default (by omega)]; unfold idxFrom; rw [if_pos c2]
    · refine (next_round (i + 1) (to_fr ⟨(Le.refl _), ⟨(Le.refl _), ⟨(Le.refl _), ⟨(Le.of_eq (by kernel_rfl)), trivial⟩⟩⟩⟩ rfl rfl) ?_ ?_)
      · refine ⟨by omega, ?_⟩
        rw [h2, getD_drop l.l default (by omega)]; conv => lhs; unfold idxFrom
        rw [c2]; rfl
      · omega
    · refine ⟨_, To.refl _, vcQ [] (lkL [(7, [4])]) (fun _ => []) (fun (Q : AEx → St R.σ → Prop) => Q AEx.ret (St.mk [(4, int i64 (-1))] [] g)) (fun _ => by kernel_rfl) (?_)⟩
      refine (retQ_le (retQ_same' _ _ rfl trivial rfl rfl rfl) (Le.of_eq ?_))
      show (int i64 (-1)) = _
      show AV.int _ _ = AV.int _ _
      rw [h2, List.drop_eq_nil_of_le (by omega)]; rfl
theorem c_ContainsFunc_PackClause (R : Res) (l : KL Clause) (u : Value) (q : Clause → Bool) (g : R.σ) (hl : l.l.length < 1000000)
    (hu : ∀ r, r ∈ l.l → ∀ hp, VDoes Tryd.prog R u [encCl r] hp g (.ret (.bool (q r))) hp g) :
    Does Tryd.prog R 85 [encC l, .val u] [] g (.ret (.bool (l.l.any q))) [] g := by
  refine spec_of_wp (nt := 9) (rs := [.tmp 4]) (k0 := 0) (by kernel_rfl) (by kernel_rfl) (by kernel_rfl) rfl ?_
  refine vcQ [] (lkL [(0, [0, 1]), (1, [4])]) (lkL [(1, [(2, ROrc.kcall (int i64 (idxFrom q l.l 0)))])]) (fun (Q : AEx → St R.σ → Prop) => (true = true ∧ Does Tryd.prog R 100 [encC l, val u] [] g (ret (int i64 (idxFrom q l.l 0))) [] g) ∧ Q AEx.ret (St.mk [(4, AV.bool (decide (idxFrom q l.l 0 ≥ 0)))] [] g)) (fun _ => by kernel_rfl) ⟨⟨rfl, (Go.Avm.Pack.c_IndexFunc_PackClause _ _ _ _ _ (by omega) (fun _ _ _ => hu _ (by omega) _))⟩, ?_⟩
  refine (retQ_le (retQ_same' _ _ rfl trivial rfl rfl rfl) (Le.of_eq ?_))
  show (AV.bool (decide (idxFrom q l.l 0 ≥ 0))) = _
  show AV.bool _ = AV.bool _
  rw [idxFrom_any]
theorem c_ContainsFuncF_PackClause (R : Res) (l : KL Clause) (f na nb : Nat) (a b : Nat → AV) (q : Clause → Bool) (hp : List AObj) (g : R.σ) (hl : l.l.length < 1000000) (hpl : isPlain Tryd.prog f = true)
    (h : ∀ r, r ∈ l.l → Does Tryd.prog R f (tab na 0 a ++ [encCl r] ++ tab nb 0 b) hp g (.ret (.bool (q r))) hp g) :
    Does Tryd.prog R 85 [encC l, .fn f na a nb b] hp g (.ret (.bool (l.l.any q))) hp g :=
  does_fn (pre := [encC l]) (D := fun r => r ∈ l.l) (args := fun r => [encCl r]) (oc1 := fun r => .ret (.bool (q r))) ⟨trivial, trivial⟩ hpl (fun r => ⟨below_encCl r, trivial⟩) (fun _ => trivial) h
    (fun R' g' u hu => c_ContainsFunc_PackClause R' l u q g' hl hu)
theorem c_every1_PackRange (R : Res) (r : Rng) (u : Value) (b : Bool) (g : R.σ) (hu : ∀ hp, VDoes Tryd.prog R u [encRng r] hp g (.ret (.bool b)) hp g) :
    Does Tryd.prog R 77 [encRng r, .ref 0 0] [.cells false 1 (fun _ => .val u)] g (.ret (.bool (!b))) [.cells false 1 (fun _ => .val u)] g := by
  refine spec_of_wp (nt := 8) (rs := [.tmp 3]) (k0 := 1) (by kernel_rfl) (by kernel_rfl) (by kernel_rfl) rfl ?_
  refine vcQ [] (lkL [(0, [1, 2]), (1, [3])]) (lkL [(1, [(2, ROrc.kcall (AV.bool b))])]) (fun (Q : AEx → St R.σ → Prop) => 1 ≤ 1 ∧ 3 ≤ 3 ∧ VDoes Tryd.prog R u [encRng r] [cells false 1 fun (x : Nat) => val u, cells false 3 (nth [int i64 r.pack, int i64 r.low, int i64 r.high])] g (ret (AV.bool b)) [cells false 1 fun (x : Nat) => val u, cells false 3 (nth [int i64 r.pack, int i64 r.low, int i64 r.high])] g ∧ Q AEx.ret (St.mk [(3, AV.bool !b)] [cells false 1 fun (x : Nat) => val u, cells false 3 (nth [int i64 r.pack, int i64 r.low, int i64 r.high])] g)) (fun _ => by kernel_rfl) ⟨(by omega), ⟨(by omega), ⟨(hu _), ?_⟩⟩⟩
  refine (retQ_le (retQ_take' 1 _ _ rfl trivial (by omega) trivial ⟨(fun j hj => match j, hj with | 0, _ => trivial ), trivial⟩ (by kernel_rfl) rfl rfl) (Le.refl _))
theorem c_every_PackRange (R : Res) (l : KL Rng) (u : Value) (q : Rng → Bool) (g : R.σ) (hl : l.l.length < 1000000)
    (hu : ∀ r, r ∈ l.l → ∀ hp, VDoes Tryd.prog R u [encRng r] hp g (.ret (.bool (q r))) hp g) :
    Does Tryd.prog R 39 [encR l, .val u] [] g (.ret (.bool (l.l.all q))) [] g := by
  refine spec_of_wp (nt := 9) (rs := [.tmp 4]) (k0 := 0) (by kernel_rfl) (by kernel_rfl) (by kernel_rfl) rfl ?_
  refine vcQ [] (lkL [(0, [0, 3]), (1, [4])]) (lkL [(1, [(2, ROrc.kcall (AV.bool (List.any l.l fun (r : Rng) => !q r)))])]) (fun (Q : AEx → St R.σ → Prop) => (true = true ∧ Does Tryd.prog R 24 [encR l, fn 77 0 (nth []) 1 (nth [ref 0 0])] [cells false 1 fun (a : Nat) => val u] g (ret (AV.bool (List.any l.l fun (r : Rng) => !q r))) [cells false 1 fun (a : Nat) => val u] g) ∧ Q AEx.ret (St.mk [(4, AV.bool !List.any l.l fun (r : Rng) => !q r)] [cells false 1 fun (a : Nat) => val u] g)) (fun _ => by kernel_rfl) ⟨⟨rfl, (Go.Avm.Pack.c_ContainsFuncF_PackRange _ _ _ _ _ _ _ _ _ _ (by omega) (by kernel_rfl) (fun r _ => (Go.Avm.Pack.c_every1_PackRange _ _ _ _ _ (fun _ => hu _ (by omega) _))))⟩, ?_⟩
  refine (retQ_le (retQ_drop _ _ rfl trivial trivial rfl) (Le.of_eq ?_))
  show (AV.bool !List.any l.l fun (r : Rng) => !q r) = _
  show AV.bool _ = AV.bool _
  congr 1
  simp [List.all_eq_not_any_not]
theorem c_everyF_PackRange (R : Res) (l : KL Rng) (f na nb : Nat) (a b : Nat → AV) (q : Rng → Bool) (hp : List AObj) (g : R.σ) (hl : l.l.length < 1000000) (hpl : isPlain Tryd.prog f = true)
    (h : ∀ r, r ∈ l.l → Does Tryd.prog R f (tab na 0 a ++ [encRng r] ++ tab nb 0 b) hp g (.ret (.bool (q r))) hp g) :
    Does Tryd.prog R 39 [encR l, .fn f na a nb b] hp g (.ret (.bool (l.l.all q))) hp g :=
  does_fn (pre := [encR l]) (D := fun r => r ∈ l.l) (args := fun r => [encRng r]) (oc1 := fun r => .ret (.bool (q r))) ⟨trivial, trivial⟩ hpl (fun r => ⟨below_encRng r, trivial⟩) (fun _ => trivial) h
    (fun R' g' u hu => c_every_PackRange R' l u q g' hl hu)
theorem c_every1_PackRelease (R : Res) (r : Rel) (u : Value) (b : Bool) (g : R.σ) (hu : ∀ hp, VDoes Tryd.prog R u [encRel r] hp g (.ret (.bool b)) hp g) :
    Does Tryd.prog R 94 [encRel r, .ref 0 0] [.cells false 1 (fun _ => .val u)] g (.ret (.bool (!b))) [.cells false 1 (fun _ => .val u)] g := by
  refine spec_of_wp (nt := 8) (rs := [.tmp 3]) (k0 := 1) (by kernel_rfl) (by kernel_rfl) (by kernel_rfl) rfl ?_
  refine vcQ [] (lkL [(0, [1, 2]), (1, [3])]) (lkL [(1, [(2, ROrc.kcall (AV.bool b))])]) (fun (Q : AEx → St R.σ → Prop) => 1 ≤ 1 ∧ 2 ≤ 2 ∧ VDoes Tryd.prog R u [encRel r] [cells false 1 fun (x : Nat) => val u, cells false 2 (nth [encR r.needs, encR r.bars])] g (ret (AV.bool b)) [cells false 1 fun (x : Nat) => val u, cells false 2 (nth [encR r.needs, encR r.bars])] g ∧ Q AEx.ret (St.mk [(3, AV.bool !b)] [cells false 1 fun (x : Nat) => val u, cells false 2 (nth [encR r.needs, encR r.bars])] g)) (fun _ => by kernel_rfl) ⟨(by omega), ⟨(by omega), ⟨(hu _), ?_⟩⟩⟩
  refine (retQ_le (retQ_take' 1 _ _ rfl trivial (by omega) trivial ⟨(fun j hj => match j, hj with | 0, _ => trivial ), trivial⟩ (by kernel_rfl) rfl rfl) (Le.refl _))
theorem c_every_PackRelease (R : Res) (l : KL Rel) (u : Value) (q : Rel → Bool) (g : R.σ) (hl : l.l.length < 1000000)
    (hu : ∀ r, r ∈ l.l → ∀ hp, VDoes Tryd.prog R u [encRel r] hp g (.ret (.bool (q r))) hp g) :
    Does Tryd.prog R 74 [encRels l, .val u] [] g (.ret (.bool (l.l.all q))) [] g := by
  refine spec_of_wp (nt := 9) (rs := [.tmp 4]) (k0 := 0) (by kernel_rfl) (by kernel_rfl) (by kernel_rfl) rfl ?_
  refine vcQ [] (lkL [(0, [0, 3]), (1, [4])]) (lkL [(1, [(2, ROrc.kcall (AV.bool (List.any l.l fun (r : Rel) => !q r)))])]) (fun (Q : AEx → St R.σ → Prop) => (true = true ∧ Does Tryd.prog R 93 [encRels l, fn 94 0 (nth []) 1 (nth [ref 0 0])] [cells false 1 fun (a : Nat) => val u] g (ret (AV.bool (List.any l.l fun (r : Rel) => !q r))) [cells false 1 fun (a : Nat) => val u] g) ∧ Q AEx.ret (St.mk [(4, AV.bool !List.any l.l fun (r : Rel) => !q r)] [cells false 1 fun (a : Nat) => val u] g)) (fun _ => by kernel_rfl) ⟨⟨rfl, (Go.Avm.Pack.c_ContainsFuncF_PackRelease _ _ _ _ _ _ _ _ _ _ (by omega) (by kernel_rfl) (fun r _ => (Go.Avm.Pack.c_every1_PackRelease _ _ _ _ _ (fun _ => hu _ (by omega) _))))⟩, ?_⟩
  refine (retQ_le (retQ_drop _ _ rfl trivial trivial rfl) (Le.of_eq ?_))
  show (AV.bool !List.any l.l fun (r : Rel) => !q r) = _
  show AV.bool _ = AV.bool _
  congr 1
  simp [List.all_eq_not_any_not]
theorem c_everyF_PackRelease (R : Res) (l : KL Rel) (f na nb : Nat) (a b : Nat → AV) (q : Rel → Bool) (hp : List AObj) (g : R.σ) (hl : l.l.length < 1000000) (hpl : isPlain Tryd.prog f = true)
    (h : ∀ r, r ∈ l.l → Does Tryd.prog R f (tab na 0 a ++ [encRel r] ++ tab nb 0 b) hp g (.ret (.bool (q r))) hp g) :
    Does Tryd.prog R 74 [encRels l, .fn f na a nb b] hp g (.ret (.bool (l.l.all q))) hp g :=
  does_fn (pre := [encRels l]) (D := fun r => r ∈ l.l) (args := fun r => [encRel r]) (oc1 := fun r => .ret (.bool (q r))) ⟨trivial, trivial⟩ hpl (fun r => ⟨below_encRel r, trivial⟩) (fun _ => trivial) h
    (fun R' g' u hu => c_every_PackRelease R' l u q g' hl hu)
end Go.Avm.Pack
namespace Go.Avm.Pack
open Go Go.Avm Go.Proofs
open Go.IntKind (i64 u64)
open Go.Avm.AV (int bool any fz fp sl ow ref fn ifc val agg tup)
open Go.Avm.AObj (cells dead)
open Go.Avm.Oc (ret)
set_option maxRecDepth 4000
def inR (n : Int) (r : Rng) : Bool := decide (r.low ≤ n ∧ n ≤ r.high)
theorem c_meets (R : Res) (p : Nat → Int) (r : Rng) (hp : List AObj) (g : R.σ) (h0 : 0 ≤ r.pack) (h1 : r.pack < 8) : Does Tryd.prog R 97 [encPlan p, encRng r] hp g (.ret (.bool (inR (p r.pack.toNat) r))) hp g := by
  refine does_any' (fun R g => ?_) (by exact ⟨⟨⟨⟨⟨⟨⟨⟨⟨trivial, trivial⟩, trivial⟩, trivial⟩, trivial⟩, trivial⟩, trivial⟩, trivial⟩, trivial⟩, ⟨⟨⟨⟨trivial, trivial⟩, trivial⟩, trivial⟩, trivial⟩⟩) R hp g
  refine spec_of_wp (nt := 14) (rs := [.tmp 4]) (k0 := 0) (by kernel_rfl) (by kernel_rfl) (by kernel_rfl) rfl ?_
  refine vcQ [] (lkL [(0, [2, 3]), (1, [4])]) (lkL [(1, [(8, ROrc.pcall (AV.bool (decide (r.low ≤ p (Int.toNat r.pack) ∧ p (Int.toNat r.pack) ≤ r.high))))])]) (fun (Q : AEx → St R.σ → Prop) => Tables.follows Tryd.prog.toTables Departure.mixedOrders = true ∧ 1 ≤ 3 ∧ (0 ≤ r.pack ∧ r.pack < (↑8 : Int)) ∧ Int.toNat r.pack + 1 ≤ 8 ∧ 2 ≤ 3 ∧ 3 ≤ 3 ∧ (∀ (hp : List AObj) (g : R.σ), true = true ∧ Does Tryd.prog R 41 [int i64 (p (Int.toNat r.pack)), int i64 r.low, int i64 r.high] hp g (ret (AV.bool (decide (r.low ≤ p (Int.toNat r.pack) ∧ p (Int.toNat r.pack) ≤ r.high)))) hp g) ∧ Q AEx.ret (St.mk [(4, AV.bool (decide (r.low ≤ p (Int.toNat r.pack) ∧ p (Int.toNat r.pack) ≤ r.high)))] [cells false 8 fun (a : Nat) => int i64 (p a), cells false 3 (nth [int i64 r.pack, int i64 r.low, int i64 r.high])] g)) (fun _ => by kernel_rfl) ⟨(by kernel_rfl), ⟨(by omega), ⟨(by omega), ⟨(by omega), ⟨(by omega), ⟨(by omega), ⟨(fun _ _ => ⟨rfl, (Go.Avm.Pack.c_within _ _ _ _ _ _)⟩), ?_⟩⟩⟩⟩⟩⟩⟩
  refine (retQ_le (retQ_drop _ _ rfl trivial trivial rfl) (Le.of_eq (by kernel_rfl)))
def rels (x : Ix) (i : Int) : List Rel := (x.l.getD i.toNat default).l
def rangedB (x : Ix) (r : Rng) : Bool := decide (0 ≤ r.pack ∧ r.pack < x.l.length ∧ 0 ≤ r.low ∧ r.low ≤ r.high ∧ r.high < (rels x r.pack).length)
def small (x : Ix) : Prop := x.l.length < 1000000 ∧ ∀ i, (x.l.getD i default).l.length < 1000000
theorem c_ranged (R : Res) (x : Ix) (gl : KL Rng) (r : Rng) (hp : List AObj) (g : R.σ) (hs : small x) : Does Tryd.prog R 72 [encMkt x gl, encRng r] hp g (.ret (.bool (rangedB x r))) hp g := by
  have w1 := hs.1
  have w2 := hs.2 r.pack.toNat
  refine does_any' (fun R g => ?_) (by exact ⟨⟨⟨trivial, trivial⟩, trivial⟩, ⟨⟨⟨⟨trivial, trivial⟩, trivial⟩, trivial⟩, trivial⟩⟩) R hp g
  refine spec_of_wp (nt := 34) (rs := [.tmp 4]) (k0 := 0) (by kernel_rfl) (by kernel_rfl) (by kernel_rfl) rfl ?_
  refine vcQ [] (lkL [(0, [2, 3]), (1, [4])]) (lkL [(1, [(7, ROrc.pcall (AV.bool (decide (0 ≤ r.pack ∧ r.pack ≤ (↑(List.length x.l) : Int) - 1)))), (27, ROrc.pcall (AV.bool (decide (r.low ≤ r.high ∧ r.high ≤ (↑(List.length (List.getD x.l (Int.toNat r.pack) default).l) : Int) - 1))))])]) (fun (Q : AEx → St R.σ → Prop) => Tables.follows Tryd.prog.toTables Departure.mixedOrders = true ∧ 1 ≤ 3 ∧ 1 ≤ 2 ∧ (-9223372036854775808 ≤ (↑(List.length x.l) : Int) - 1 ∧ (↑(List.length x.l) : Int) - 1 ≤ 9223372036854775807) ∧ (∀ (hp : List AObj) (g : R.σ), true = true ∧ Does Tryd.prog R 41 [int i64 r.pack, int i64 0, int i64 ((↑(List.length x.l) : Int) - 1)] hp g (ret (AV.bool (decide (0 ≤ r.pack ∧ r.pack ≤ (↑(List.length x.l) : Int) - 1)))) hp g) ∧ (decide (0 ≤ r.pack ∧ r.pack ≤ (↑(List.length x.l) : Int) - 1) = true → 2 ≤ 3) ∧ ((bif decide (0 ≤ r.pack ∧ r.pack ≤ (↑(List.length x.l) : Int) - 1) then decide (r.low ≥ 0) else false) = true → 3 ≤ 3) ∧ ((bif decide (0 ≤ r.pack ∧ r.pack ≤ (↑(List.length x.l) : Int) - 1) then decide (r.low ≥ 0) else false) = true → 2 ≤ 3) ∧ ((bif decide (0 ≤ r.pack ∧ r.pack ≤ (↑(List.length x.l) : Int) - 1) then decide (r.low ≥ 0) else false) = true → 1 ≤ 2) ∧ ((bif decide (0 ≤ r.pack ∧ r.pack ≤ (↑(List.length x.l) : Int) - 1) then decide (r.low ≥ 0) else false) = true → 1 ≤ 3) ∧ ((bif decide (0 ≤ r.pack ∧ r.pack ≤ (↑(List.length x.l) : Int) - 1) then decide (r.low ≥ 0) else false) = true → 0 ≤ r.pack ∧ r.pack < (↑(List.length x.l) : Int)) ∧ ((bif decide (0 ≤ r.pack ∧ r.pack ≤ (↑(List.length x.l) : Int) - 1) then decide (r.low ≥ 0) else false) = true → 1 ≤ 1) ∧ ((bif decide (0 ≤ r.pack ∧ r.pack ≤ (↑(List.length x.l) : Int) - 1) then decide (r.low ≥ 0) else false) = true → -9223372036854775808 ≤ (↑(List.length (List.getD x.l (Int.toNat r.pack) default).l) : Int) - 1 ∧ (↑(List.length (List.getD x.l (Int.toNat r.pack) default).l) : Int) - 1 ≤ 9223372036854775807) ∧ ((bif decide (0 ≤ r.pack ∧ r.pack ≤ (↑(List.length x.l) : Int) - 1) then decide (r.low ≥ 0) else false) = true → ∀ (hp : List AObj) (g : R.σ), true = true ∧ Does Tryd.prog R 41 [int i64 r.high, int i64 r.low, int i64 ((↑(List.length (List.getD x.l (Int.toNat r.pack) default).l) : Int) - 1)] hp g (ret (AV.bool (decide (r.low ≤ r.high ∧ r.high ≤ (↑(List.length (List.getD x.l (Int.toNat r.pack) default).l) : Int) - 1)))) hp g) ∧ Q AEx.ret (St.mk [(4, AV.bool (bif bif decide (0 ≤ r.pack ∧ r.pack ≤ (↑(List.length x.l) : Int) - 1) then decide (r.low ≥ 0) else false then decide (r.low ≤ r.high ∧ r.high ≤ (↑(List.length (List.getD x.l (Int.toNat r.pack) default).l) : Int) - 1) else false))] [cells false 2 (nth [encPacks x, encR gl]), cells false 3 (nth [int i64 r.pack, int i64 r.low, int i64 r.high])] g)) (fun _ => by kernel_rfl) ⟨(by kernel_rfl), ⟨(by omega), ⟨(by omega), ⟨(by omega), ⟨(fun _ _ => ⟨rfl, (Go.Avm.Pack.c_within _ _ _ _ _ _)⟩), ⟨(by omega), ⟨(by omega), ⟨(by omega), ⟨(by omega), ⟨(by omega), ⟨(by intro h; simp at h <;> omega), ⟨(by omega), ⟨(by omega), ⟨(fun hgd => (fun _ _ => ⟨rfl, (Go.Avm.Pack.c_within _ _ _ _ _ _)⟩)), ?_⟩⟩⟩⟩⟩⟩⟩⟩⟩⟩⟩⟩⟩⟩
  refine (retQ_le (retQ_drop _ _ rfl trivial trivial rfl) (Le.of_eq ?_))
  show (AV.bool (bif bif decide (0 ≤ r.pack ∧ r.pack ≤ (↑(List.length x.l) : Int) - 1) then decide (r.low ≥ 0) else false then decide (r.low ≤ r.high ∧ r.high ≤ (↑(List.length (List.getD x.l (Int.toNat r.pack) default).l) : Int) - 1) else false)) = _
  show AV.bool _ = AV.bool _
  congr 1
  unfold rangedB rels
  rw [Bool.eq_iff_iff]
  simp
  omega
def otherB (x : Ix) (i : Int) (r : Rng) : Bool := rangedB x r && r.pack != i
theorem c_formed1 (R : Res) (x : Ix) (gl : KL Rng) (i : Int) (r : Rng) (g : R.σ) (hs : small x) : Does Tryd.prog R 71 [encRng r, .ref 0 0, .ref 1 0] [.cells false 2 (nth [encPacks x, encR gl]), .cells false 1 (fun _ => .int .i64 i)] g (.ret (.bool (otherB x i r))) [.cells false 2 (nth [encPacks x, encR gl]), .cells false 1 (fun _ => .int .i64 i)] g := by
  refine spec_of_wp (nt := 14) (rs := [.tmp 4]) (k0 := 2) (by kernel_rfl) (by kernel_rfl) (by kernel_rfl) rfl ?_
  refine vcQ [] (lkL [(0, [1, 2, 3]), (1, [4])]) (lkL [(1, [(2, ROrc.pcall (AV.bool (rangedB x r)))])]) (fun (Q : AEx → St R.σ → Prop) => 2 ≤ 2 ∧ 3 ≤ 3 ∧ (∀ (hp : List AObj) (g : R.σ), true = true ∧ Does Tryd.prog R 72 [encMkt x gl, encRng r] hp g (ret (AV.bool (rangedB x r))) hp g) ∧ (rangedB x r = true → 1 ≤ 3) ∧ (rangedB x r = true → 1 ≤ 1) ∧ Q AEx.ret (St.mk [(4, AV.bool (bif rangedB x r then r.pack != i else false))] [cells false 2 (nth [encPacks x, encR gl]), cells false 1 fun (x : Nat) => int i64 i, cells false 3 (nth [int i64 r.pack, int i64 r.low, int i64 r.high])] g)) (fun _ => by kernel_rfl) ⟨(by omega), ⟨(by omega), ⟨(fun _ _ => ⟨rfl, (Go.Avm.Pack.c_ranged _ _ _ _ _ _ (by omega))⟩), ⟨(by omega), ⟨(by omega), ?_⟩⟩⟩⟩⟩
  refine (retQ_le (retQ_take' 2 _ _ rfl trivial (by omega) trivial ⟨(fun j hj => match j, hj with | 0, _ => trivial | 1, _ => trivial ), ⟨(fun j hj => match j, hj with | 0, _ => trivial ), trivial⟩⟩ (by kernel_rfl) rfl rfl) (Le.of_eq (by kernel_rfl)))
def relB (x : Ix) (i : Int) (r : Rel) : Bool := ((decide ((r.needs.l.length : Int) ≤ 4) && decide ((r.bars.l.length : Int) ≤ 4)) && r.needs.l.all (otherB x i)) && r.bars.l.all (otherB x i)
def hpF (x : Ix) (gl : KL Rng) (i : Int) : List AObj := [.cells false 2 (nth [encPacks x, encR gl]), .cells false 1 (fun _ => .int .i64 i), .cells false 1 (fun _ => .fn 71 0 (fun _ => .any) 2 (nth [.ref 0 0, .ref 1 0]))]
theorem c_formed2 (R : Res) (x : Ix) (gl : KL Rng) (i : Int) (r : Rel) (g : R.σ) (hs : small x) : Does Tryd.prog R 73 [encRel r, .ref 2 0] (hpF x gl i) g (.ret (.bool (relB x i r))) (hpF x gl i) g := by
  refine spec_of_wp (nt := 26) (rs := [.tmp 3]) (k0 := 3) (by kernel_rfl) (by kernel_rfl) (by kernel_rfl) rfl ?_
  refine vcQ [] (lkL [(0, [1, 2]), (1, [3])]) (lkL [(1, [(14, ROrc.kcall (AV.bool (List.all r.needs.l (otherB x i)))), (20, ROrc.kcall (AV.bool (List.all r.bars.l (otherB x i))))])]) (fun (Q : AEx → St R.σ → Prop) => 1 ≤ 2 ∧ (decide ((↑(List.length r.needs.l) : Int) ≤ 4) = true → 2 ≤ 2) ∧ ((bif decide ((↑(List.length r.needs.l) : Int) ≤ 4) then decide ((↑(List.length r.bars.l) : Int) ≤ 4) else false) = true → 1 ≤ 2) ∧ ((bif decide ((↑(List.length r.needs.l) : Int) ≤ 4) then decide ((↑(List.length r.bars.l) : Int) ≤ 4) else false) = true → 1 ≤ 1) ∧ ((bif decide ((↑(List.length r.needs.l) : Int) ≤ 4) then decide ((↑(List.length r.bars.l) : Int) ≤ 4) else false) = true → true = true ∧ Does Tryd.prog R 39 [encR r.needs, fn 71 0 (fun (x : Nat) => any) 2 (nth [ref 0 0, ref 1 0])] [cells false 2 (nth [encPacks x, encR gl]), cells false 1 fun (x : Nat) => int i64 i, cells false 1 fun (x : Nat) => fn 71 0 (fun (x : Nat) => any) 2 (nth [ref 0 0, ref 1 0]), cells false 2 (nth [encR r.needs, encR r.bars])] g (ret (AV.bool (List.all r.needs.l (otherB x i)))) [cells false 2 (nth [encPacks x, encR gl]), cells false 1 fun (x : Nat) => int i64 i, cells false 1 fun (x : Nat) => fn 71 0 (fun (x : Nat) => any) 2 (nth [ref 0 0, ref 1 0]), cells false 2 (nth [encR r.needs, encR r.bars])] g) ∧ ((bif bif decide ((↑(List.length r.needs.l) : Int) ≤ 4) then decide ((↑(List.length r.bars.l) : Int) ≤ 4) else false then List.all r.needs.l (otherB x i) else false) = true → 2 ≤ 2) ∧ ((bif bif decide ((↑(List.length r.needs.l) : Int) ≤ 4) then decide ((↑(List.length r.bars.l) : Int) ≤ 4) else false then List.all r.needs.l (otherB x i) else false) = true → 1 ≤ 1) ∧ ((bif bif decide ((↑(List.length r.needs.l) : Int) ≤ 4) then decide ((↑(List.length r.bars.l) : Int) ≤ 4) else false then List.all r.needs.l (otherB x i) else false) = true → true = true ∧ Does Tryd.prog R 39 [encR r.bars, fn 71 0 (fun (x : Nat) => any) 2 (nth [ref 0 0, ref 1 0])] [cells false 2 (nth [encPacks x, encR gl]), cells false 1 fun (x : Nat) => int i64 i, cells false 1 fun (x : Nat) => fn 71 0 (fun (x : Nat) => any) 2 (nth [ref 0 0, ref 1 0]), cells false 2 (nth [encR r.needs, encR r.bars])] g (ret (AV.bool (List.all r.bars.l (otherB x i)))) [cells false 2 (nth [encPacks x, encR gl]), cells false 1 fun (x : Nat) => int i64 i, cells false 1 fun (x : Nat) => fn 71 0 (fun (x : Nat) => any) 2 (nth [ref 0 0, ref 1 0]), cells false 2 (nth [encR r.needs, encR r.bars])] g) ∧ Q AEx.ret (St.mk [(3, AV.bool (bif bif bif decide ((↑(List.length r.needs.l) : Int) ≤ 4) then decide ((↑(List.length r.bars.l) : Int) ≤ 4) else false then List.all r.needs.l (otherB x i) else false then List.all r.bars.l (otherB x i) else false))] [cells false 2 (nth [encPacks x, encR gl]), cells false 1 fun (x : Nat) => int i64 i, cells false 1 fun (x : Nat) => fn 71 0 (fun (x : Nat) => any) 2 (nth [ref 0 0, ref 1 0]), cells false 2 (nth [encR r.needs, encR r.bars])] g)) (fun _ => by kernel_rfl) ⟨(by omega), ⟨(by omega), ⟨(by omega), ⟨(by omega), ⟨(fun hgd => ⟨rfl, (Go.Avm.Pack.c_everyF_PackRange _ _ _ _ _ _ _ _ _ _ (by simp at * <;> omega) (by kernel_rfl) (fun r _ => (does_sub' [0, 1] 4 (fun R g => Go.Avm.Pack.c_formed1 R (x) (gl) (i) (r) g (by omega)) rfl rfl rfl (by exact ⟨⟨rfl, Nat.le_refl _, fun j hj => match j, hj with | 0, _ => (Le.refl _) | 1, _ => (Le.refl _) ⟩, ⟨⟨rfl, Nat.le_refl _, fun j hj => match j, hj with | 0, _ => (Le.refl _) ⟩, trivial⟩⟩) (by exact ⟨by omega, ⟨by omega, trivial⟩⟩) (by exact ⟨le_ren (by exact ⟨⟨⟨trivial, trivial⟩, trivial⟩, trivial⟩), ⟨(Le.refl _), ⟨(Le.refl _), trivial⟩⟩⟩) (by exact le_unren (by exact trivial)) (by exact ⟨⟨rfl, Nat.le_refl _, fun j hj => match j, hj with | 0, _ => (Le.refl _) | 1, _ => (Le.refl _) ⟩, ⟨⟨rfl, Nat.le_refl _, fun j hj => match j, hj with | 0, _ => (Le.refl _) ⟩, ⟨LeO.rflc, ⟨LeO.rflc, trivial⟩⟩⟩⟩))))⟩), ⟨(by omega), ⟨(by omega), ⟨(fun hgd => ⟨rfl, (Go.Avm.Pack.c_everyF_PackRange _ _ _ _ _ _ _ _ _ _ (by simp at * <;> omega) (by kernel_rfl) (fun r _ => (does_sub' [0, 1] 4 (fun R g => Go.Avm.Pack.c_formed1 R (x) (gl) (i) (r) g (by omega)) rfl rfl rfl (by exact ⟨⟨rfl, Nat.le_refl _, fun j hj => match j, hj with | 0, _ => (Le.refl _) | 1, _ => (Le.refl _) ⟩, ⟨⟨rfl, Nat.le_refl _, fun j hj => match j, hj with | 0, _ => (Le.refl _) ⟩, trivial⟩⟩) (by exact ⟨by omega, ⟨by omega, trivial⟩⟩) (by exact ⟨le_ren (by exact ⟨⟨⟨trivial, trivial⟩, trivial⟩, trivial⟩), ⟨(Le.refl _), ⟨(Le.refl _), trivial⟩⟩⟩) (by exact le_unren (by exact trivial)) (by exact ⟨⟨rfl, Nat.le_refl _, fun j hj => match j, hj with | 0, _ => (Le.refl _) | 1, _ => (Le.refl _) ⟩, ⟨⟨rfl, Nat.le_refl _, fun j hj => match j, hj with | 0, _ => (Le.refl _) ⟩, ⟨LeO.rflc, ⟨LeO.rflc, trivial⟩⟩⟩⟩))))⟩), ?_⟩⟩⟩⟩⟩⟩⟩⟩
  refine (retQ_le (retQ_take' 3 _ _ rfl trivial (by omega) trivial ⟨(fun j hj => match j, hj with | 0, _ => trivial | 1, _ => trivial ), ⟨(fun j hj => match j, hj with | 0, _ => trivial ), ⟨(fun j hj => match j, hj with | 0, _ => ⟨trivial, ⟨⟨trivial, (show 1 ≤ 3 by omega)⟩, (show 2 ≤ 3 by omega)⟩⟩ ), trivial⟩⟩⟩ (by kernel_rfl) rfl rfl) (Le.of_eq (by kernel_rfl)))
def relsB (x : Ix) (i : Int) (l : List Rel) : Bool := decide (l.length ≤ 5) && l.all (relB x i)
def allN' (n : Nat) (q : Nat → Bool) : Bool := (List.range n).all q
theorem allN'_false {n i : Nat} {q : Nat → Bool} (h : i < n) (hq : q i = false) : allN' n q = false := by
  unfold allN'
  rw [List.all_eq_false]
  exact ⟨i, by simpa using h, by simp [hq]⟩
theorem allN'_true {n : Nat} {q : Nat → Bool} (h : ∀ i, i < n → q i = true) : allN' n q = true := by
  unfold allN'
  rw [List.all_eq_true]
  intro i hi
  exact h i (by simpa using hi)
def formedB (x : Ix) : Bool := decide (1 ≤ x.l.length ∧ x.l.length ≤ 8) && allN' x.l.length (fun i => relsB x i (x.l.getD i default).l)
def smallR (x : Ix) : Prop := ∀ i k, ((x.l.getD i default).l.getD k default).needs.l.length < 1000000 ∧ ((x.l.getD i default).l.getD k default).bars.l.length < 1000000
theorem c_formed (R : Res) (x : Ix) (gl : KL Rng) (hp : List AObj) (g : R.σ) (hs : small x) : Does Tryd.prog R 37 [encMkt x gl] hp g (.ret (.bool (formedB x))) hp g := by
  have w1 := hs.1
  refine does_any' (fun R g => ?_) (by exact ⟨⟨⟨trivial, trivial⟩, trivial⟩, trivial⟩) R hp g
  refine spec_of_wp (nt := 34) (rs := [.tmp 2]) (k0 := 0) (by kernel_rfl) (by kernel_rfl) (by kernel_rfl) rfl ?_
  refine vcQ [] (lkL [(0, [1]), (1, [1, 12]), (2, [2]), (3, [1, 15, 16, 17])]) (lkL [(1, [(4, ROrc.pcall (AV.bool (decide (1 ≤ (↑(List.length x.l) : Int) ∧ (↑(List.length x.l) : Int) ≤ 8))))])]) (fun (Q : AEx → St R.σ → Prop) => 1 ≤ 2 ∧ (∀ (hp : List AObj) (g : R.σ), true = true ∧ Does Tryd.prog R 41 [int i64 (↑(List.length x.l) : Int), int i64 1, int i64 8] hp g (ret (AV.bool (decide (1 ≤ (↑(List.length x.l) : Int) ∧ (↑(List.length x.l) : Int) ≤ 8)))) hp g) ∧ ((!decide (1 ≤ (↑(List.length x.l) : Int) ∧ (↑(List.length x.l) : Int) ≤ 8)) = true → Q AEx.ret (St.mk [(2, AV.bool false)] [cells false 2 (nth [encPacks x, encR gl])] g)) ∧ ((!decide (1 ≤ (↑(List.length x.l) : Int) ∧ (↑(List.length x.l) : Int) ≤ 8)) = false → 1 ≤ 2 ∧ Wp Tryd.prog R 34 0 Rd.top (bodyOf Tryd.prog 37) [1, 1, 0, 1, 0] (contQ Tryd.prog R 34 0 Rd.top (bodyOf Tryd.prog 37) Q [Kont.blk 0, Kont.seq [1, 1, 1]]) (St.mk [(1, ref 0 0), (15, encPacks x), (16, int i64 (↑(List.length x.l) : Int)), (17, int i64 0)] [cells false 2 (nth [encPacks x, encR gl])] g))) (fun _ => by kernel_rfl) ⟨(by omega), ⟨(fun _ _ => ⟨rfl, (Go.Avm.Pack.c_within _ _ _ _ _ _)⟩), ⟨fun c1 => have c1 : ¬(1 ≤ (↑(List.length x.l) : Int) ∧ (↑(List.length x.l) : Int) ≤ 8) := (of_decide_eq_false ((Bool.not_eq_true' _).mp c1)); ?_, fun c1 => have c1 : 1 ≤ (↑(List.length x.l) : Int) ∧ (↑(List.length x.l) : Int) ≤ 8 := (of_decide_eq_true ((Bool.not_eq_false' _).mp c1)); ⟨(by omega), ?_⟩⟩⟩⟩
  · refine (retQ_le (retQ_drop _ _ rfl trivial trivial rfl) (Le.of_eq ?_))
    show (AV.bool false) = _
    congr 1
    unfold formedB
    simp
    omega
  · have hb : 1 ≤ x.l.length ∧ x.l.length ≤ 8 := by omega
    refine (wp_loop (by kernel_rfl) (fun (i : Nat) => ⟨[(1, ref 0 0), (15, encPacks x), (16, int i64 (↑(List.length x.l) : Int)), (17, .int .i64 (i : Int))], [cells false 2 (nth [encPacks x, encR gl])], g⟩) (fun (i : Nat) => (i ≤ x.l.length ∧ ∀ j, j < i → relsB x j (x.l.getD j default).l = true)) (fun (i : Nat) => (x.l.length - i)) 0 (to_fr ⟨(Le.refl _), ⟨(Le.refl _), ⟨(Le.refl _), ⟨(Le.of_eq (by kernel_rfl)), trivial⟩⟩⟩⟩ rfl rfl) ?_ (fun i hi => ?_))
    · exact ⟨Nat.zero_le _, fun j hj => absurd hj (by omega)⟩
    · obtain ⟨h1, h2⟩ := hi
      refine vcQ [] (lkL [(4, [1, 15, 16, 17, 18]), (5, [1, 3, 4, 15, 16, 17]), (6, [1, 4, 5, 15, 16, 17]), (7, [1, 4, 6, 15, 16, 17]), (8, [1, 15, 16, 17, 32]), (9, [2]), (10, [1, 15, 16, 17])]) (lkL [(5, [(4, ROrc.val (Orc.obj (nth [int i64 (↑i : Int)])))]), (6, [(2, ROrc.val (Orc.obj (nth [fn 71 0 (nth []) 2 (nth [ref 0 0, ref 1 0])])))]), (8, [(6, ROrc.kcall (AV.bool (List.all (List.getD x.l i default).l (relB x (↑i : Int)))))])]) (fun (Q : AEx → St R.σ → Prop) => (decide ((↑i : Int) < (↑(List.length x.l) : Int)) = true → (0 ≤ (↑i : Int) ∧ (↑i : Int) < (↑(List.length x.l) : Int)) ∧ 1 ≤ 1 ∧ 1 ≤ 1 ∧ (∀ (c : Nat), c < 1 → nth [int i64 (↑i : Int)] c = over (fun (a : Nat) => int i64 0) 0 1 (fun (x : Nat) => int i64 (↑i : Int)) c) ∧ 1 ≤ 1 ∧ (∀ (c : Nat), c < 1 → nth [fn 71 0 (nth []) 2 (nth [ref 0 0, ref 1 0])] c = over (fun (a : Nat) => AV.nilf) 0 1 (fun (x : Nat) => fn 71 0 (nth []) 2 (nth [ref 0 0, ref 1 0])) c) ∧ ((!decide ((↑(List.length (List.getD x.l i default).l) : Int) > 5)) = true → true = true ∧ Does Tryd.prog R 74 [encRels (List.getD x.l i default), fn 73 0 (nth []) 1 (nth [ref 2 0])] [cells false 2 (nth [encPacks x, encR gl]), cells false 1 (nth [int i64 (↑i : Int)]), cells false 1 (nth [fn 71 0 (nth []) 2 (nth [ref 0 0, ref 1 0])])] g (ret (AV.bool (List.all (List.getD x.l i default).l (relB x (↑i : Int))))) [cells false 2 (nth [encPacks x, encR gl]), cells false 1 (nth [int i64 (↑i : Int)]), cells false 1 (nth [fn 71 0 (nth []) 2 (nth [ref 0 0, ref 1 0])])] g) ∧ ((bif decide ((↑(List.length (List.getD x.l i default).l) : Int) > 5) then true else !List.all (List.getD x.l i default).l (relB x (↑i : Int))) = true → Q AEx.ret (St.mk [(2, AV.bool false)] [cells false 2 (nth [encPacks x, encR gl]), cells false 1 (nth [int i64 (↑i : Int)]), cells false 1 (nth [fn 71 0 (nth []) 2 (nth [ref 0 0, ref 1 0])])] g)) ∧ ((bif decide ((↑(List.length (List.getD x.l i default).l) : Int) > 5) then true else !List.all (List.getD x.l i default).l (relB x (↑i : Int))) = false → (-9223372036854775808 ≤ (↑i : Int) + 1 ∧ (↑i : Int) + 1 ≤ 9223372036854775807) ∧ Q AEx.normal (St.mk [(1, ref 0 0), (15, encPacks x), (16, int i64 (↑(List.length x.l) : Int)), (17, int i64 ((↑i : Int) + 1))] [cells false 2 (nth [encPacks x, encR gl]), cells false 1 (nth [int i64 (↑i : Int)]), cells false 1 (nth [fn 71 0 (nth []) 2 (nth [ref 0 0, ref 1 0])])] g))) ∧ (decide ((↑i : Int) < (↑(List.length x.l) : Int)) = false → Q (AEx.exit 0) (St.mk [(1, ref 0 0), (15, encPacks x), (16, int i64 (↑(List.length x.l) : Int)), (17, int i64 (↑i : Int)), (18, AV.bool (decide ((↑i : Int) < (↑(List.length x.l) : Int))))] [cells false 2 (nth [encPacks x, encR gl])] g))) (fun _ => by kernel_rfl) ⟨fun c1 => have c1 : (↑i : Int) < (↑(List.length x.l) : Int) := (of_decide_eq_true c1); ⟨(by omega), ⟨(by omega), ⟨(by omega), ⟨(fun c hc => match c, hc with | 0, _ => (by kernel_rfl) ), ⟨(by omega), ⟨(fun c hc => match c, hc with | 0, _ => (by kernel_rfl) ), ⟨(fun hgd => ⟨rfl, (Go.Avm.Pack.c_everyF_PackRelease _ _ _ _ _ _ _ _ _ _ (by simp at * <;> omega) (by kernel_rfl) (fun r _ => (does_sub' [0, 1, 2] 3 (fun R g => Go.Avm.Pack.c_formed2 R (x) (gl) ((↑i : Int)) (r) g (by omega)) rfl rfl rfl (by exact ⟨⟨rfl, Nat.le_refl _, fun j hj => match j, hj with | 0, _ => (Le.refl _) | 1, _ => (Le.refl _) ⟩, ⟨⟨rfl, Nat.le_refl _, fun j hj => match j, hj with | 0, _ => (Le.refl _) ⟩, ⟨⟨rfl, Nat.le_refl _, fun j hj => match j, hj with | 0, _ => (Le.fn (fun i hi => absurd hi (by omega)) (fun i hi => match i, hi with | 0, _ => (Le.refl _) | 1, _ => (Le.refl _) )) ⟩, trivial⟩⟩⟩) (by exact ⟨by omega, ⟨by omega, ⟨by omega, trivial⟩⟩⟩) (by exact ⟨le_ren (by exact ⟨⟨trivial, trivial⟩, trivial⟩), ⟨(Le.refl _), trivial⟩⟩) (by exact le_unren (by exact trivial)) (by exact ⟨⟨rfl, Nat.le_refl _, fun j hj => match j, hj with | 0, _ => (Le.refl _) | 1, _ => (Le.refl _) ⟩, ⟨⟨rfl, Nat.le_refl _, fun j hj => match j, hj with | 0, _ => (Le.refl _) ⟩, ⟨⟨rfl, Nat.le_refl _, fun j hj => match j, hj with | 0, _ => (Le.fn (fun i hi => absurd hi (by omega)) (fun i hi => match i, hi with | 0, _ => (Le.refl _) | 1, _ => (Le.refl _) )) ⟩, trivial⟩⟩⟩))))⟩), ⟨fun c2 => have c2 : (↑(List.length (List.getD x.l i default).l) : Int) > 5 ∨ List.all (List.getD x.l i default).l (relB x (↑i : Int)) = false := ((cO_t c2).imp (fun h => (of_decide_eq_true h)) (fun h => ((Bool.not_eq_true' _).mp h))); ?_, fun c2 => have c2 : ¬(↑(List.length (List.getD x.l i default).l) : Int) > 5 ∧ List.all (List.getD x.l i default).l (relB x (↑i : Int)) = true := ⟨(of_decide_eq_false (cO_f c2).1), ((Bool.not_eq_false' _).mp (cO_f c2).2)⟩; ⟨(by omega), ?_⟩⟩⟩⟩⟩⟩⟩⟩⟩, fun c1 => have c1 : ¬(↑i : Int) < (↑(List.length x.l) : Int) := (of_decide_eq_false c1); ?_⟩
      · refine ⟨_, To.refl _, (retQ_le (retQ_drop _ _ rfl trivial trivial rfl) (Le.of_eq ?_))⟩
        show (AV.bool false) = _
        have : relsB x i (x.l.getD i default).l = false := by
          unfold relsB
          rcases c2 with h | h
          · have : ¬ (x.l.getD i default).l.length ≤ 5 := by omega
            simp only [this, decide_false, Bool.false_and]
          · rw [h, Bool.and_false]
        unfold formedB
        rw [allN'_false (i := i) (by omega) this]
        simp
      · refine (next_round (i + 1) (to_sel [0] 3 rfl rfl rfl rfl rfl ⟨(Le.refl _), ⟨(Le.refl _), ⟨(Le.refl _), ⟨(Le.refl _), trivial⟩⟩⟩⟩ ⟨⟨rfl, Nat.le_refl _, fun j hj => match j, hj with | 0, _ => (Le.refl _) | 1, _ => (Le.refl _) ⟩, trivial⟩) ?_ ?_)
        · refine ⟨by omega, fun j hj => ?_⟩
          rcases Nat.lt_or_ge j i with h | h
          · exact h2 j h
          · have : j = i := by omega
            subst this
            unfold relsB
            have : (x.l.getD j default).l.length ≤ 5 := by omega
            simp only [this, decide_true, Bool.true_and]
            exact c2.2
        · omega
      · refine ⟨_, To.refl _, vcQ [] (lkL [(11, [2])]) (fun _ => []) (fun (Q : AEx → St R.σ → Prop) => Q AEx.ret (St.mk [(2, AV.bool true)] [cells false 2 (nth [encPacks x, encR gl])] g)) (fun _ => by kernel_rfl) (?_)⟩
        refine (retQ_le (retQ_drop _ _ rfl trivial trivial rfl) (Le.of_eq ?_))
        show (AV.bool true) = _
        have : allN' x.l.length (fun i => relsB x i (x.l.getD i default).l) = true := allN'_true (fun j hj => h2 j (by omega))
        unfold formedB
        rw [this]
        simp [hb]
end Go.Avm.Pack
namespace Go.Avm.Pack
open Go Go.Avm Go.Proofs
open Go.IntKind (i64 u64)
open Go.Avm.AV (int bool any fz fp sl ow ref fn ifc val agg tup)
open Go.Avm.AObj (cells dead)
open Go.Avm.Oc (ret)
set_option maxRecDepth 4000
def checkB (x : Ix) (gl : List Rng) : Bool := formedB x && (decide (gl.length ≤ 4) && gl.all (rangedB x))
theorem Check_all (R : Res) (x : Ix) (gl : KL Rng) (hp : List AObj) (g : R.σ) (hs : small x) (hg : gl.l.length < 1000000) : Does Tryd.prog R 47 [encIx x, encR gl] hp g (.ret (.int .i64 (if checkB x gl.l then 0 else 2))) hp g := by
  refine does_any' (fun R g => ?_) (by exact ⟨⟨trivial, trivial⟩, ⟨trivial, trivial⟩⟩) R hp g
  refine spec_of_wp (nt := 24) (rs := [.tmp 4]) (k0 := 0) (by kernel_rfl) (by kernel_rfl) (by kernel_rfl) rfl ?_
  refine vcQ [] (lkL [(0, [1, 2]), (1, [1, 5]), (2, [23]), (3, [4]), (4, [4])]) (lkL [(1, [(4, ROrc.val (Orc.obj (nth [encPacks x, encR gl])))]), (2, [(1, ROrc.pcall (AV.bool (formedB x))), (12, ROrc.kcall (AV.bool (List.all gl.l (rangedB x))))])]) (fun (Q : AEx → St R.σ → Prop) => 1 ≤ 1 ∧ 2 ≤ 2 ∧ (∀ (c : Nat), c < 2 → nth [encPacks x, encR gl] c = over (nth [fz Fz.nil 0 0 fun (x x_1 : Nat) => any, fz Fz.nil 0 0 fun (x x_1 : Nat) => any]) 0 2 (List.brecOn (motive := fun (x : List AV) => Nat → AV) [encPacks x, encR gl] nth._f) c) ∧ 2 ≤ 2 ∧ (∀ (hp : List AObj) (g : R.σ), true = true ∧ Does Tryd.prog R 37 [encMkt x gl] hp g (ret (AV.bool (formedB x))) hp g) ∧ ((!bif !formedB x then true else decide ((↑(List.length gl.l) : Int) > 4)) = true → 2 ≤ 2) ∧ ((!bif !formedB x then true else decide ((↑(List.length gl.l) : Int) > 4)) = true → true = true ∧ Does Tryd.prog R 39 [encR gl, fn 72 1 (nth [encMkt x gl]) 0 (nth [])] [cells false 1 (nth [encPacks x]), cells false 2 (nth [encPacks x, encR gl])] g (ret (AV.bool (List.all gl.l (rangedB x)))) [cells false 1 (nth [encPacks x]), cells false 2 (nth [encPacks x, encR gl])] g) ∧ ((bif bif !formedB x then true else decide ((↑(List.length gl.l) : Int) > 4) then true else !List.all gl.l (rangedB x)) = true → Q AEx.ret (St.mk [(4, int i64 2)] [cells false 1 (nth [encPacks x]), cells false 2 (nth [encPacks x, encR gl])] g)) ∧ ((bif bif !formedB x then true else decide ((↑(List.length gl.l) : Int) > 4) then true else !List.all gl.l (rangedB x)) = false → Q AEx.ret (St.mk [(4, int i64 0)] [cells false 1 (nth [encPacks x]), cells false 2 (nth [encPacks x, encR gl])] g))) (fun _ => by kernel_rfl) ⟨(by omega), ⟨(by omega), ⟨(fun c hc => match c, hc with | 0, _ => (by kernel_rfl) | 1, _ => (by kernel_rfl) ), ⟨(by omega), ⟨(fun _ _ => ⟨rfl, (Go.Avm.Pack.c_formed _ _ _ _ _ (by omega))⟩), ⟨(by omega), ⟨(fun hgd => ⟨rfl, (Go.Avm.Pack.c_everyF_PackRange _ _ _ _ _ _ _ _ _ _ (by omega) (by kernel_rfl) (fun r _ => (Go.Avm.Pack.c_ranged _ _ _ _ _ _ (by omega))))⟩), ⟨fun c1 => have c1 : (formedB x = false ∨ (↑(List.length gl.l) : Int) > 4) ∨ List.all gl.l (rangedB x) = false := ((cO_t c1).imp (fun h => ((cO_t h).imp (fun h => ((Bool.not_eq_true' _).mp h)) (fun h => (of_decide_eq_true h)))) (fun h => ((Bool.not_eq_true' _).mp h))); ?_, fun c1 => have c1 : (formedB x = true ∧ ¬(↑(List.length gl.l) : Int) > 4) ∧ List.all gl.l (rangedB x) = true := ⟨⟨((Bool.not_eq_false' _).mp (cO_f (cO_f c1).1).1), (of_decide_eq_false (cO_f (cO_f c1).1).2)⟩, ((Bool.not_eq_false' _).mp (cO_f c1).2)⟩; ?_⟩⟩⟩⟩⟩⟩⟩⟩
  · refine (retQ_le (retQ_drop _ _ rfl trivial trivial rfl) (Le.of_eq ?_))
    show (int i64 2) = _
    have : checkB x gl.l = false := by
      unfold checkB
      rcases c1 with (h | h) | h
      · rw [h]; rfl
      · have : ¬ gl.l.length ≤ 4 := by omega
        simp only [this, decide_false, Bool.false_and, Bool.and_false]
      · rw [h, Bool.and_false, Bool.and_false]
    rw [this]; rfl
  · refine (retQ_le (retQ_drop _ _ rfl trivial trivial rfl) (Le.of_eq ?_))
    show (int i64 0) = _
    have : checkB x gl.l = true := by
      unfold checkB
      have : gl.l.length ≤ 4 := by omega
      simp only [this, decide_true, Bool.true_and, c1]
    rw [this]; rfl
theorem c_Check_t (R : Res) (x : Ix) (gl : KL Rng) (hp : List AObj) (g : R.σ) (hc : checkB x gl.l = true) (hs : small x) (hg : gl.l.length < 1000000) : Does Tryd.prog R 47 [encIx x, encR gl] hp g (.ret (.int .i64 0)) hp g := by
  have := Check_all R x gl hp g hs hg
  rw [hc] at this
  exact this
theorem c_Check_f (R : Res) (x : Ix) (gl : KL Rng) (hp : List AObj) (g : R.σ) (hc : checkB x gl.l = false) (hs : small x) (hg : gl.l.length < 1000000) : Does Tryd.prog R 47 [encIx x, encR gl] hp g (.ret (.int .i64 2)) hp g := by
  have := Check_all R x gl hp g hs hg
  rw [hc] at this
  exact this
def planOf (l : List Int) (n : Nat) : Nat → Int := fun j => if j < n then l.getD j 0 else 0
def plannedB (x : Ix) (l : List Int) : Bool := decide (l.length = x.l.length) && allN' x.l.length (fun i => decide (-1 ≤ l.getD i 0 ∧ l.getD i 0 < ((x.l.getD i default).l.length : Int)))
theorem plannedB_iff {x : Ix} {l : List Int} : plannedB x l = true ↔ l.length = x.l.length ∧ ∀ j, j < x.l.length → -1 ≤ l.getD j 0 ∧ l.getD j 0 < ((x.l.getD j default).l.length : Int) := by
  unfold plannedB allN'
  simp
theorem c_planned_t (R : Res) (x : Ix) (gl : KL Rng) (l : KL Int) (hp : List AObj) (g : R.σ) (h : plannedB x l.l = true) (hs : small x) (h8 : x.l.length ≤ 8) : Does Tryd.prog R 48 [encMkt x gl, encI l] hp g (.ret (.tup 2 (nth [encPlan (planOf l.l x.l.length), .bool true]))) hp g := by
  have w1 := hs.1
  have w2 := hs.2
  obtain ⟨hl, hr⟩ := plannedB_iff.1 h
  refine does_any' (fun R g => ?_) (by exact ⟨⟨⟨trivial, trivial⟩, trivial⟩, ⟨trivial, trivial⟩⟩) R hp g
  refine spec_of_wp (nt := 41) (rs := [.cell 4 89, .tmp 5]) (k0 := 0) (by kernel_rfl) (by kernel_rfl) (by kernel_rfl) rfl ?_
  refine vcQ [] (lkL [(0, [1, 2, 4]), (1, [1, 2, 4, 6]), (2, [1, 2, 4, 6, 15]), (3, [4, 5]), (4, [2, 4, 6, 17, 18, 19])]) (lkL [(3, [(1, ROrc.val (Orc.obj (nth [int i64 0, int i64 0, int i64 0, int i64 0, int i64 0, int i64 0, int i64 0, int i64 0])))])]) (fun (Q : AEx → St R.σ → Prop) => 1 ≤ 2 ∧ (((↑(List.length l.l) : Int) != (↑(List.length x.l) : Int)) = true → 8 ≤ 8 ∧ 8 ≤ 8 ∧ (∀ (c : Nat), c < 8 → nth [int i64 0, int i64 0, int i64 0, int i64 0, int i64 0, int i64 0, int i64 0, int i64 0] c = over (nth [int i64 0, int i64 0, int i64 0, int i64 0, int i64 0, int i64 0, int i64 0, int i64 0]) 0 8 (List.brecOn (motive := fun (x : List AV) => Nat → AV) [int i64 0, int i64 0, int i64 0, int i64 0, int i64 0, int i64 0, int i64 0, int i64 0] nth._f) c) ∧ Q AEx.ret (St.mk [(4, ref 1 0), (5, AV.bool false)] [cells false 2 (nth [encPacks x, encR gl]), cells false 8 (nth [int i64 0, int i64 0, int i64 0, int i64 0, int i64 0, int i64 0, int i64 0, int i64 0]), cells false 8 (nth [int i64 0, int i64 0, int i64 0, int i64 0, int i64 0, int i64 0, int i64 0, int i64 0])] g)) ∧ (((↑(List.length l.l) : Int) != (↑(List.length x.l) : Int)) = false → Wp Tryd.prog R 41 0 Rd.top (bodyOf Tryd.prog 48) [1, 1, 1, 0, 1, 0] (contQ Tryd.prog R 41 0 Rd.top (bodyOf Tryd.prog 48) Q [Kont.blk 0, Kont.seq [1, 1, 1, 1]]) (St.mk [(2, ref 0 0), (4, ref 1 0), (6, ref 2 0), (17, encI l), (18, int i64 (↑(List.length l.l) : Int)), (19, int i64 0)] [cells false 2 (nth [encPacks x, encR gl]), cells false 8 (nth [int i64 0, int i64 0, int i64 0, int i64 0, int i64 0, int i64 0, int i64 0, int i64 0]), cells false 8 (nth [int i64 0, int i64 0, int i64 0, int i64 0, int i64 0, int i64 0, int i64 0, int i64 0])] g))) (fun _ => by kernel_rfl) ⟨(by omega), ⟨fun c1 => have c1 : ¬(↑(List.length l.l) : Int) = (↑(List.length x.l) : Int) := (bne_iff_ne.mp c1); ⟨(by omega), ⟨(by omega), ⟨(fun c hc => match c, hc with | 0, _ => (by kernel_rfl) | 1, _ => (by kernel_rfl) | 2, _ => (by kernel_rfl) | 3, _ => (by kernel_rfl) | 4, _ => (by kernel_rfl) | 5, _ => (by kernel_rfl) | 6, _ => (by kernel_rfl) | 7, _ => (by kernel_rfl) ), ?_⟩⟩⟩, fun c1 => have c1 : (↑(List.length l.l) : Int) = (↑(List.length x.l) : Int) := (bne_eq_false_iff_eq.mp c1); ?_⟩⟩
  · omega
  · refine (wp_loop (by kernel_rfl) (fun (i : Nat) => ⟨[(2, ref 0 0), (4, ref 1 0), (6, ref 2 0), (17, encI l), (18, int i64 (↑(List.length l.l) : Int)), (19, .int .i64 (i : Int))], [.cells false 2 (nth [encPacks x, encR gl]), .cells false 8 (fun _ => .int .i64 0), .cells false 8 (fun j => .int .i64 (planOf l.l i j))], g⟩) (fun (i : Nat) => (i ≤ x.l.length)) (fun (i : Nat) => (x.l.length - i)) 0 (to_le ⟨(Le.refl _), ⟨(Le.refl _), ⟨(Le.refl _), ⟨(Le.refl _), ⟨(Le.refl _), ⟨(Le.of_eq (by kernel_rfl)), trivial⟩⟩⟩⟩⟩⟩ ⟨LeO.rflc, ⟨⟨rfl, Nat.le_refl _, fun j hj => match j, hj with | 0, _ => (Le.refl _) | 1, _ => (Le.refl _) | 2, _ => (Le.refl _) | 3, _ => (Le.refl _) | 4, _ => (Le.refl _) | 5, _ => (Le.refl _) | 6, _ => (Le.refl _) | 7, _ => (Le.refl _) ⟩, ⟨⟨rfl, Nat.le_refl _, fun j hj => match j, hj with | 0, _ => (Le.of_eq (by kernel_rfl)) | 1, _ => (Le.of_eq (by kernel_rfl)) | 2, _ => (Le.of_eq (by kernel_rfl)) | 3, _ => (Le.of_eq (by kernel_rfl)) | 4, _ => (Le.of_eq (by kernel_rfl)) | 5, _ => (Le.of_eq (by kernel_rfl)) | 6, _ => (Le.of_eq (by kernel_rfl)) | 7, _ => (Le.of_eq (by kernel_rfl)) ⟩, trivial⟩⟩⟩ rfl) ?_ (fun i hi => ?_))
    · exact Nat.zero_le _
    · have w3 := w2 i
      refine vcQ [] (lkL [(5, [2, 4, 6, 17, 18, 19, 20]), (6, [2, 4, 6, 7, 8, 17, 18, 19]), (7, [2, 4, 6, 7, 8, 17, 18, 19, 34]), (8, [4, 5]), (9, [2, 4, 6, 17, 18, 19]), (10, [2, 4, 6, 17, 18, 19])]) (lkL [(7, [(9, ROrc.pcall (AV.bool (decide (-1 ≤ List.getD l.l i 0 ∧ List.getD l.l i 0 ≤ (↑(List.length (List.getD x.l i default).l) : Int) - 1))))]), (8, [(1, ROrc.val (Orc.obj fun (j : Nat) => int i64 (planOf l.l i j)))])]) (fun (Q : AEx → St R.σ → Prop) => (decide ((↑i : Int) < (↑(List.length l.l) : Int)) = true → (0 ≤ (↑i : Int) ∧ (↑i : Int) < (↑(List.length l.l) : Int)) ∧ 1 ≤ 1 ∧ 1 ≤ 2 ∧ (0 ≤ (↑i : Int) ∧ (↑i : Int) < (↑(List.length x.l) : Int)) ∧ 1 ≤ 1 ∧ (-9223372036854775808 ≤ (↑(List.length (List.getD x.l i default).l) : Int) - 1 ∧ (↑(List.length (List.getD x.l i default).l) : Int) - 1 ≤ 9223372036854775807) ∧ (∀ (hp : List AObj) (g : R.σ), true = true ∧ Does Tryd.prog R 41 [int i64 (List.getD l.l i 0), int i64 (-1), int i64 ((↑(List.length (List.getD x.l i default).l) : Int) - 1)] hp g (ret (AV.bool (decide (-1 ≤ List.getD l.l i 0 ∧ List.getD l.l i 0 ≤ (↑(List.length (List.getD x.l i default).l) : Int) - 1)))) hp g) ∧ ((!decide (-1 ≤ List.getD l.l i 0 ∧ List.getD l.l i 0 ≤ (↑(List.length (List.getD x.l i default).l) : Int) - 1)) = true → 8 ≤ 8 ∧ 8 ≤ 8 ∧ (∀ (c : Nat), c < 8 → int i64 (planOf l.l i c) = over (fun (x : Nat) => int i64 0) 0 8 (fun (j : Nat) => int i64 (planOf l.l i j)) c) ∧ Q AEx.ret (St.mk [(4, ref 1 0), (5, AV.bool false)] [cells false 2 (nth [encPacks x, encR gl]), cells false 8 fun (j : Nat) => int i64 (planOf l.l i j), cells false 8 fun (j : Nat) => int i64 (planOf l.l i j)] g)) ∧ ((!decide (-1 ≤ List.getD l.l i 0 ∧ List.getD l.l i 0 ≤ (↑(List.length (List.getD x.l i default).l) : Int) - 1)) = false → (0 ≤ (↑i : Int) ∧ (↑i : Int) < (↑8 : Int)) ∧ i + 1 ≤ 8 ∧ (-9223372036854775808 ≤ (↑i : Int) + 1 ∧ (↑i : Int) + 1 ≤ 9223372036854775807) ∧ Q AEx.normal (St.mk [(2, ref 0 0), (4, ref 1 0), (6, ref 2 0), (17, encI l), (18, int i64 (↑(List.length l.l) : Int)), (19, int i64 ((↑i : Int) + 1))] [cells false 2 (nth [encPacks x, encR gl]), cells false 8 fun (x : Nat) => int i64 0, cells false 8 (over (fun (j : Nat) => int i64 (planOf l.l i j)) i 1 fun (x : Nat) => int i64 (List.getD l.l i 0))] g))) ∧ (decide ((↑i : Int) < (↑(List.length l.l) : Int)) = false → Q (AEx.exit 0) (St.mk [(2, ref 0 0), (4, ref 1 0), (6, ref 2 0), (17, encI l), (18, int i64 (↑(List.length l.l) : Int)), (19, int i64 (↑i : Int)), (20, AV.bool (decide ((↑i : Int) < (↑(List.length l.l) : Int))))] [cells false 2 (nth [encPacks x, encR gl]), cells false 8 fun (x : Nat) => int i64 0, cells false 8 fun (j : Nat) => int i64 (planOf l.l i j)] g))) (fun _ => by kernel_rfl) ⟨fun c1 => have c1 : (↑i : Int) < (↑(List.length l.l) : Int) := (of_decide_eq_true c1); ⟨(by omega), ⟨(by omega), ⟨(by omega), ⟨(by omega), ⟨(by omega), ⟨(by omega), ⟨(fun _ _ => ⟨rfl, (Go.Avm.Pack.c_within _ _ _ _ _ _)⟩), ⟨fun c2 => have c2 : ¬(-1 ≤ List.getD l.l i 0 ∧ List.getD l.l i 0 ≤ (↑(List.length (List.getD x.l i default).l) : Int) - 1) := (of_decide_eq_false ((Bool.not_eq_true' _).mp c2)); ⟨(by omega), ⟨(by omega), ⟨(fun c hc => match c, hc with | 0, _ => (by kernel_rfl) | 1, _ => (by kernel_rfl) | 2, _ => (by kernel_rfl) | 3, _ => (by kernel_rfl) | 4, _ => (by kernel_rfl) | 5, _ => (by kernel_rfl) | 6, _ => (by kernel_rfl) | 7, _ => (by kernel_rfl) ), ?_⟩⟩⟩, fun c2 => have c2 : -1 ≤ List.getD l.l i 0 ∧ List.getD l.l i 0 ≤ (↑(List.length (List.getD x.l i default).l) : Int) - 1 := (of_decide_eq_true ((Bool.not_eq_false' _).mp c2)); ⟨(by omega), ⟨(by omega), ⟨(by omega), ?_⟩⟩⟩⟩⟩⟩⟩⟩⟩⟩⟩, fun c1 => have c1 : ¬(↑i : Int) < (↑(List.length l.l) : Int) := (of_decide_eq_false c1); ?_⟩
      · have := hr i (by omega)
        omega
      · refine (next_round (i + 1) (to_le ⟨(Le.refl _), ⟨(Le.refl _), ⟨(Le.refl _), ⟨(Le.refl _), ⟨(Le.refl _), ⟨(Le.of_eq (by kernel_rfl)), trivial⟩⟩⟩⟩⟩⟩ ⟨LeO.rflc, ⟨LeO.rflc, ⟨(LeO.cells (fun j hj => ?_)), trivial⟩⟩⟩ rfl) ?_ ?_)
        · rw [over_eq]
          unfold planOf
          split
          · rename_i hj
            have : j = i := by omega
            subst this
            rw [if_pos (by omega)]
          · rename_i hj
            by_cases hji : j < i
            · rw [if_pos hji, if_pos (by omega)]
            · rw [if_neg hji, if_neg (by omega)]
        · omega
        · omega
      · have e : i = x.l.length := by omega
        refine ⟨_, To.refl _, vcQ [] (lkL [(11, [4, 5])]) (lkL [(11, [(1, ROrc.val (Orc.obj fun (j : Nat) => int i64 (planOf l.l i j)))])]) (fun (Q : AEx → St R.σ → Prop) => 8 ≤ 8 ∧ 8 ≤ 8 ∧ (∀ (c : Nat), c < 8 → int i64 (planOf l.l i c) = over (fun (x : Nat) => int i64 0) 0 8 (fun (j : Nat) => int i64 (planOf l.l i j)) c) ∧ Q AEx.ret (St.mk [(4, ref 1 0), (5, AV.bool true)] [cells false 2 (nth [encPacks x, encR gl]), cells false 8 fun (j : Nat) => int i64 (planOf l.l i j), cells false 8 fun (j : Nat) => int i64 (planOf l.l i j)] g)) (fun _ => by kernel_rfl) ⟨(by omega), ⟨(by omega), ⟨(fun c hc => match c, hc with | 0, _ => (by kernel_rfl) | 1, _ => (by kernel_rfl) | 2, _ => (by kernel_rfl) | 3, _ => (by kernel_rfl) | 4, _ => (by kernel_rfl) | 5, _ => (by kernel_rfl) | 6, _ => (by kernel_rfl) | 7, _ => (by kernel_rfl) ), ?_⟩⟩⟩⟩
        refine (retQ_le (retQ_drop (tup 2 (nth [agg 8 fun (j : Nat) => int i64 (planOf l.l i j), AV.bool true])) ([0 + (TyI.mk ((fun (x : TypeInfo) => x.desc) Tryd.prog.types[88]) Tryd.prog.types[89].size Tryd.prog.types[89].bytes (cellA (ofVal (Value.agg #[Value.int i64 0, Value.int i64 0, Value.int i64 0, Value.int i64 0, Value.int i64 0, Value.int i64 0, Value.int i64 0, Value.int i64 0]))) (isAggD ((fun (x : TypeInfo) => x.desc) Tryd.prog.types[88])) (flatTy Tryd.prog 89)).size ≤ 8]) (by kernel_rfl) (by exact ⟨(by decide), trivial⟩) ⟨⟨trivial, ⟨⟨⟨⟨⟨⟨⟨⟨trivial, trivial⟩, trivial⟩, trivial⟩, trivial⟩, trivial⟩, trivial⟩, trivial⟩, trivial⟩⟩, trivial⟩ rfl) (Le.tup (fun j hj => match j, hj with | 0, _ => (Le.agg (fun j hj => match j, hj with | 0, _ => (Le.of_eq ?_) | 1, _ => (Le.of_eq ?_) | 2, _ => (Le.of_eq ?_) | 3, _ => (Le.of_eq ?_) | 4, _ => (Le.of_eq ?_) | 5, _ => (Le.of_eq ?_) | 6, _ => (Le.of_eq ?_) | 7, _ => (Le.of_eq ?_) )) | 1, _ => (Le.of_eq ?_) )))
        all_goals first | rfl | (show AV.int _ _ = AV.int _ _; rw [e])
theorem c_planned_f (R : Res) (x : Ix) (gl : KL Rng) (l : KL Int) (hp : List AObj) (g : R.σ) (h : plannedB x l.l = false) (hs : small x) (h8 : x.l.length ≤ 8) : Does Tryd.prog R 48 [encMkt x gl, encI l] hp g (.ret (.tup 2 (nth [.agg 8 (fun _ => .any), .bool false]))) hp g := by
  have w1 := hs.1
  have w2 := hs.2
  refine does_any' (fun R g => ?_) (by exact ⟨⟨⟨trivial, trivial⟩, trivial⟩, ⟨trivial, trivial⟩⟩) R hp g
  refine spec_of_wp (nt := 41) (rs := [.cell 4 89, .tmp 5]) (k0 := 0) (by kernel_rfl) (by kernel_rfl) (by kernel_rfl) rfl ?_
  refine vcQ [] (lkL [(0, [1, 2, 4]), (1, [1, 2, 4, 6]), (2, [1, 2, 4, 6, 15]), (3, [4, 5]), (4, [2, 4, 6, 17, 18, 19])]) (lkL [(3, [(1, ROrc.val (Orc.obj (nth [int i64 0, int i64 0, int i64 0, int i64 0, int i64 0, int i64 0, int i64 0, int i64 0])))])]) (fun (Q : AEx → St R.σ → Prop) => 1 ≤ 2 ∧ (((↑(List.length l.l) : Int) != (↑(List.length x.l) : Int)) = true → 8 ≤ 8 ∧ 8 ≤ 8 ∧ (∀ (c : Nat), c < 8 → nth [int i64 0, int i64 0, int i64 0, int i64 0, int i64 0, int i64 0, int i64 0, int i64 0] c = over (nth [int i64 0, int i64 0, int i64 0, int i64 0, int i64 0, int i64 0, int i64 0, int i64 0]) 0 8 (List.brecOn (motive := fun (x : List AV) => Nat → AV) [int i64 0, int i64 0, int i64 0, int i64 0, int i64 0, int i64 0, int i64 0, int i64 0] nth._f) c) ∧ Q AEx.ret (St.mk [(4, ref 1 0), (5, AV.bool false)] [cells false 2 (nth [encPacks x, encR gl]), cells false 8 (nth [int i64 0, int i64 0, int i64 0, int i64 0, int i64 0, int i64 0, int i64 0, int i64 0]), cells false 8 (nth [int i64 0, int i64 0, int i64 0, int i64 0, int i64 0, int i64 0, int i64 0, int i64 0])] g)) ∧ (((↑(List.length l.l) : Int) != (↑(List.length x.l) : Int)) = false → Wp Tryd.prog R 41 0 Rd.top (bodyOf Tryd.prog 48) [1, 1, 1, 0, 1, 0] (contQ Tryd.prog R 41 0 Rd.top (bodyOf Tryd.prog 48) Q [Kont.blk 0, Kont.seq [1, 1, 1, 1]]) (St.mk [(2, ref 0 0), (4, ref 1 0), (6, ref 2 0), (17, encI l), (18, int i64 (↑(List.length l.l) : Int)), (19, int i64 0)] [cells false 2 (nth [encPacks x, encR gl]), cells false 8 (nth [int i64 0, int i64 0, int i64 0, int i64 0, int i64 0, int i64 0, int i64 0, int i64 0]), cells false 8 (nth [int i64 0, int i64 0, int i64 0, int i64 0, int i64 0, int i64 0, int i64 0, int i64 0])] g))) (fun _ => by kernel_rfl) ⟨(by omega), ⟨fun c1 => have c1 : ¬(↑(List.length l.l) : Int) = (↑(List.length x.l) : Int) := (bne_iff_ne.mp c1); ⟨(by omega), ⟨(by omega), ⟨(fun c hc => match c, hc with | 0, _ => (by kernel_rfl) | 1, _ => (by kernel_rfl) | 2, _ => (by kernel_rfl) | 3, _ => (by kernel_rfl) | 4, _ => (by kernel_rfl) | 5, _ => (by kernel_rfl) | 6, _ => (by kernel_rfl) | 7, _ => (by kernel_rfl) ), ?_⟩⟩⟩, fun c1 => have c1 : (↑(List.length l.l) : Int) = (↑(List.length x.l) : Int) := (bne_eq_false_iff_eq.mp c1); ?_⟩⟩
  · refine (retQ_le (retQ_drop (tup 2 (nth [agg 8 (nth [int i64 0, int i64 0, int i64 0, int i64 0, int i64 0, int i64 0, int i64 0, int i64 0]), AV.bool false])) ([0 + (TyI.mk ((fun (x : TypeInfo) => x.desc) Tryd.prog.types[88]) Tryd.prog.types[89].size Tryd.prog.types[89].bytes (cellA (ofVal (Value.agg #[Value.int i64 0, Value.int i64 0, Value.int i64 0, Value.int i64 0, Value.int i64 0, Value.int i64 0, Value.int i64 0, Value.int i64 0]))) (isAggD ((fun (x : TypeInfo) => x.desc) Tryd.prog.types[88])) (flatTy Tryd.prog 89)).size ≤ 8]) (by kernel_rfl) (by exact ⟨(by decide), trivial⟩) ⟨⟨trivial, ⟨⟨⟨⟨⟨⟨⟨⟨trivial, trivial⟩, trivial⟩, trivial⟩, trivial⟩, trivial⟩, trivial⟩, trivial⟩, trivial⟩⟩, trivial⟩ rfl) (Le.tup (fun j hj => match j, hj with | 0, _ => (Le.agg (fun j hj => match j, hj with | 0, _ => (Le.any _) | 1, _ => (Le.any _) | 2, _ => (Le.any _) | 3, _ => (Le.any _) | 4, _ => (Le.any _) | 5, _ => (Le.any _) | 6, _ => (Le.any _) | 7, _ => (Le.any _) )) | 1, _ => (Le.of_eq (by kernel_rfl)) )))
  · have hl : l.l.length = x.l.length := by omega
    refine (wp_loop (by kernel_rfl) (fun (i : Nat) => ⟨[(2, ref 0 0), (4, ref 1 0), (6, ref 2 0), (17, encI l), (18, int i64 (↑(List.length l.l) : Int)), (19, .int .i64 (i : Int))], [.cells false 2 (nth [encPacks x, encR gl]), .cells false 8 (fun _ => .int .i64 0), .cells false 8 (fun j => .int .i64 (planOf l.l i j))], g⟩) (fun (i : Nat) => (i ≤ x.l.length ∧ ∀ j, j < i → -1 ≤ l.l.getD j 0 ∧ l.l.getD j 0 < ((x.l.getD j default).l.length : Int))) (fun (i : Nat) => (x.l.length - i)) 0 (to_le ⟨(Le.refl _), ⟨(Le.refl _), ⟨(Le.refl _), ⟨(Le.refl _), ⟨(Le.refl _), ⟨(Le.of_eq (by kernel_rfl)), trivial⟩⟩⟩⟩⟩⟩ ⟨LeO.rflc, ⟨⟨rfl, Nat.le_refl _, fun j hj => match j, hj with | 0, _ => (Le.refl _) | 1, _ => (Le.refl _) | 2, _ => (Le.refl _) | 3, _ => (Le.refl _) | 4, _ => (Le.refl _) | 5, _ => (Le.refl _) | 6, _ => (Le.refl _) | 7, _ => (Le.refl _) ⟩, ⟨⟨rfl, Nat.le_refl _, fun j hj => match j, hj with | 0, _ => (Le.of_eq (by kernel_rfl)) | 1, _ => (Le.of_eq (by kernel_rfl)) | 2, _ => (Le.of_eq (by kernel_rfl)) | 3, _ => (Le.of_eq (by kernel_rfl)) | 4, _ => (Le.of_eq (by kernel_rfl)) | 5, _ => (Le.of_eq (by kernel_rfl)) | 6, _ => (Le.of_eq (by kernel_rfl)) | 7, _ => (Le.of_eq (by kernel_rfl)) ⟩, trivial⟩⟩⟩ rfl) ?_ (fun i hi => ?_))
    · exact ⟨Nat.zero_le _, fun j hj => absurd hj (by omega)⟩
    · obtain ⟨h1, h2⟩ := hi
      have w3 := w2 i
      refine vcQ [] (lkL [(5, [2, 4, 6, 17, 18, 19, 20]), (6, [2, 4, 6, 7, 8, 17, 18, 19]), (7, [2, 4, 6, 7, 8, 17, 18, 19, 34]), (8, [4, 5]), (9, [2, 4, 6, 17, 18, 19]), (10, [2, 4, 6, 17, 18, 19])]) (lkL [(7, [(9, ROrc.pcall (AV.bool (decide (-1 ≤ List.getD l.l i 0 ∧ List.getD l.l i 0 ≤ (↑(List.length (List.getD x.l i default).l) : Int) - 1))))]), (8, [(1, ROrc.val (Orc.obj fun (j : Nat) => int i64 (planOf l.l i j)))])]) (fun (Q : AEx → St R.σ → Prop) => (decide ((↑i : Int) < (↑(List.length l.l) : Int)) = true → (0 ≤ (↑i : Int) ∧ (↑i : Int) < (↑(List.length l.l) : Int)) ∧ 1 ≤ 1 ∧ 1 ≤ 2 ∧ (0 ≤ (↑i : Int) ∧ (↑i : Int) < (↑(List.length x.l) : Int)) ∧ 1 ≤ 1 ∧ (-9223372036854775808 ≤ (↑(List.length (List.getD x.l i default).l) : Int) - 1 ∧ (↑(List.length (List.getD x.l i default).l) : Int) - 1 ≤ 9223372036854775807) ∧ (∀ (hp : List AObj) (g : R.σ), true = true ∧ Does Tryd.prog R 41 [int i64 (List.getD l.l i 0), int i64 (-1), int i64 ((↑(List.length (List.getD x.l i default).l) : Int) - 1)] hp g (ret (AV.bool (decide (-1 ≤ List.getD l.l i 0 ∧ List.getD l.l i 0 ≤ (↑(List.length (List.getD x.l i default).l) : Int) - 1)))) hp g) ∧ ((!decide (-1 ≤ List.getD l.l i 0 ∧ List.getD l.l i 0 ≤ (↑(List.length (List.getD x.l i default).l) : Int) - 1)) = true → 8 ≤ 8 ∧ 8 ≤ 8 ∧ (∀ (c : Nat), c < 8 → int i64 (planOf l.l i c) = over (fun (x : Nat) => int i64 0) 0 8 (fun (j : Nat) => int i64 (planOf l.l i j)) c) ∧ Q AEx.ret (St.mk [(4, ref 1 0), (5, AV.bool false)] [cells false 2 (nth [encPacks x, encR gl]), cells false 8 fun (j : Nat) => int i64 (planOf l.l i j), cells false 8 fun (j : Nat) => int i64 (planOf l.l i j)] g)) ∧ ((!decide (-1 ≤ List.getD l.l i 0 ∧ List.getD l.l i 0 ≤ (↑(List.length (List.getD x.l i default).l) : Int) - 1)) = false → (0 ≤ (↑i : Int) ∧ (↑i : Int) < (↑8 : Int)) ∧ i + 1 ≤ 8 ∧ (-9223372036854775808 ≤ (↑i : Int) + 1 ∧ (↑i : Int) + 1 ≤ 9223372036854775807) ∧ Q AEx.normal (St.mk [(2, ref 0 0), (4, ref 1 0), (6, ref 2 0), (17, encI l), (18, int i64 (↑(List.length l.l) : Int)), (19, int i64 ((↑i : Int) + 1))] [cells false 2 (nth [encPacks x, encR gl]), cells false 8 fun (x : Nat) => int i64 0, cells false 8 (over (fun (j : Nat) => int i64 (planOf l.l i j)) i 1 fun (x : Nat) => int i64 (List.getD l.l i 0))] g))) ∧ (decide ((↑i : Int) < (↑(List.length l.l) : Int)) = false → Q (AEx.exit 0) (St.mk [(2, ref 0 0), (4, ref 1 0), (6, ref 2 0), (17, encI l), (18, int i64 (↑(List.length l.l) : Int)), (19, int i64 (↑i : Int)), (20, AV.bool (decide ((↑i : Int) < (↑(List.length l.l) : Int))))] [cells false 2 (nth [encPacks x, encR gl]), cells false 8 fun (x : Nat) => int i64 0, cells false 8 fun (j : Nat) => int i64 (planOf l.l i j)] g))) (fun _ => by kernel_rfl) ⟨fun c1 => have c1 : (↑i : Int) < (↑(List.length l.l) : Int) := (of_decide_eq_true c1); ⟨(by omega), ⟨(by omega), ⟨(by omega), ⟨(by omega), ⟨(by omega), ⟨(by omega), ⟨(fun _ _ => ⟨rfl, (Go.Avm.Pack.c_within _ _ _ _ _ _)⟩), ⟨fun c2 => have c2 : ¬(-1 ≤ List.getD l.l i 0 ∧ List.getD l.l i 0 ≤ (↑(List.length (List.getD x.l i default).l) : Int) - 1) := (of_decide_eq_false ((Bool.not_eq_true' _).mp c2)); ⟨(by omega), ⟨(by omega), ⟨(fun c hc => match c, hc with | 0, _ => (by kernel_rfl) | 1, _ => (by kernel_rfl) | 2, _ => (by kernel_rfl) | 3, _ => (by kernel_rfl) | 4, _ => (by kernel_rfl) | 5, _ => (by kernel_rfl) | 6, _ => (by kernel_rfl) | 7, _ => (by kernel_rfl) ), ?_⟩⟩⟩, fun c2 => have c2 : -1 ≤ List.getD l.l i 0 ∧ List.getD l.l i 0 ≤ (↑(List.length (List.getD x.l i default).l) : Int) - 1 := (of_decide_eq_true ((Bool.not_eq_false' _).mp c2)); ⟨(by omega), ⟨(by omega), ⟨(by omega), ?_⟩⟩⟩⟩⟩⟩⟩⟩⟩⟩⟩, fun c1 => have c1 : ¬(↑i : Int) < (↑(List.length l.l) : Int) := (of_decide_eq_false c1); ?_⟩
      · refine ⟨_, To.refl _, (retQ_le (retQ_drop (tup 2 (nth [agg 8 fun (j : Nat) => int i64 (planOf l.l i j), AV.bool false])) ([0 + (TyI.mk ((fun (x : TypeInfo) => x.desc) Tryd.prog.types[88]) Tryd.prog.types[89].size Tryd.prog.types[89].bytes (cellA (ofVal (Value.agg #[Value.int i64 0, Value.int i64 0, Value.int i64 0, Value.int i64 0, Value.int i64 0, Value.int i64 0, Value.int i64 0, Value.int i64 0]))) (isAggD ((fun (x : TypeInfo) => x.desc) Tryd.prog.types[88])) (flatTy Tryd.prog 89)).size ≤ 8]) (by kernel_rfl) (by exact ⟨(by decide), trivial⟩) ⟨⟨trivial, ⟨⟨⟨⟨⟨⟨⟨⟨trivial, trivial⟩, trivial⟩, trivial⟩, trivial⟩, trivial⟩, trivial⟩, trivial⟩, trivial⟩⟩, trivial⟩ rfl) (Le.tup (fun j hj => match j, hj with | 0, _ => (Le.agg (fun j hj => match j, hj with | 0, _ => (Le.any _) | 1, _ => (Le.any _) | 2, _ => (Le.any _) | 3, _ => (Le.any _) | 4, _ => (Le.any _) | 5, _ => (Le.any _) | 6, _ => (Le.any _) | 7, _ => (Le.any _) )) | 1, _ => (Le.of_eq (by kernel_rfl)) )))⟩
      · refine (next_round (i + 1) (to_le ⟨(Le.refl _), ⟨(Le.refl _), ⟨(Le.refl _), ⟨(Le.refl _), ⟨(Le.refl _), ⟨(Le.of_eq (by kernel_rfl)), trivial⟩⟩⟩⟩⟩⟩ ⟨LeO.rflc, ⟨LeO.rflc, ⟨(LeO.cells (fun j hj => ?_)), trivial⟩⟩⟩ rfl) ?_ ?_)
        · rw [over_eq]
          unfold planOf
          split
          · rename_i hj
            have : j = i := by omega
            subst this
            rw [if_pos (by omega)]
          · rename_i hj
            by_cases hji : j < i
            · rw [if_pos hji, if_pos (by omega)]
            · rw [if_neg hji, if_neg (by omega)]
        · refine ⟨by omega, fun j hj => ?_⟩
          rcases Nat.lt_or_ge j i with h | h
          · exact h2 j h
          · have : j = i := by omega
            subst this
            omega
        · omega
      · have : plannedB x l.l = true := plannedB_iff.2 ⟨hl, fun j hj => h2 j (by omega)⟩
        rw [this] at h; cases h
def noRel : Rel := ⟨⟨[], .nil⟩, ⟨[], .nil⟩⟩
def relOf (x : Ix) (p : Nat → Int) (i : Nat) : Rel := if p i = -1 then noRel else (x.l.getD i default).l.getD (p i).toNat default
theorem c_release_n (R : Res) (x : Ix) (gl : KL Rng) (p : Nat → Int) (i : Nat) (hp : List AObj) (g : R.σ) (h : (p i == -1) = true) (hi : i < 8) : Does Tryd.prog R 99 [encMkt x gl, encPlan p, .int .i64 i] hp g (.ret (.tup 2 (nth [encRel noRel, .bool false]))) hp g := by
  have h : p i = -1 := by simpa using h
  refine does_any' (fun R g => ?_) (by exact ⟨⟨⟨trivial, trivial⟩, trivial⟩, ⟨⟨⟨⟨⟨⟨⟨⟨⟨trivial, trivial⟩, trivial⟩, trivial⟩, trivial⟩, trivial⟩, trivial⟩, trivial⟩, trivial⟩, ⟨trivial, trivial⟩⟩⟩) R hp g
  refine spec_of_wp (nt := 24) (rs := [.cell 6 45, .tmp 7]) (k0 := 0) (by kernel_rfl) (by kernel_rfl) (by kernel_rfl) rfl ?_
  refine vcQ [] (lkL [(0, [2, 3, 4, 6]), (1, [2, 3, 4, 6, 11]), (2, [6, 7]), (3, [6, 7])]) (lkL [(2, [(1, ROrc.val (Orc.obj (nth [fz Fz.nil 0 0 fun (x x_1 : Nat) => any, fz Fz.nil 0 0 fun (x x_1 : Nat) => any])))]), (3, [(11, ROrc.val (Orc.obj (nth [encR (List.getD (List.getD x.l i default).l (Int.toNat (p i)) default).needs, encR (List.getD (List.getD x.l i default).l (Int.toNat (p i)) default).bars])))])]) (fun (Q : AEx → St R.σ → Prop) => (0 ≤ (↑i : Int) ∧ (↑i : Int) < (↑8 : Int)) ∧ i + 1 ≤ 8 ∧ ((p i == -1) = true → 2 ≤ 2 ∧ (∀ (c : Nat), c < 2 → nth [fz Fz.nil 0 0 fun (x x_2 : Nat) => any, fz Fz.nil 0 0 fun (x x_2 : Nat) => any] c = over (nth [fz Fz.nil 0 0 fun (x x_2 : Nat) => any, fz Fz.nil 0 0 fun (x x_2 : Nat) => any]) 0 2 (List.brecOn (motive := fun (x : List AV) => Nat → AV) [fz Fz.nil 0 0 fun (x x_2 : Nat) => any, fz Fz.nil 0 0 fun (x x_2 : Nat) => any] nth._f) c) ∧ Q AEx.ret (St.mk [(6, ref 2 0), (7, AV.bool false)] [cells false 2 (nth [encPacks x, encR gl]), cells false 8 fun (a : Nat) => int i64 (p a), cells false 2 (nth [fz Fz.nil 0 0 fun (x x_2 : Nat) => any, fz Fz.nil 0 0 fun (x x_2 : Nat) => any])] g)) ∧ ((p i == -1) = false → Tables.follows Tryd.prog.toTables Departure.mixedOrders = true ∧ 1 ≤ 2 ∧ (0 ≤ (↑i : Int) ∧ (↑i : Int) < (↑(List.length x.l) : Int)) ∧ 1 ≤ 1 ∧ (0 ≤ (↑i : Int) ∧ (↑i : Int) < (↑8 : Int)) ∧ i + 1 ≤ 8 ∧ (0 ≤ p i ∧ p i < (↑(List.length (List.getD x.l i default).l) : Int)) ∧ 2 ≤ 2 ∧ 2 ≤ 2 ∧ (∀ (c : Nat), c < 2 → nth [encR (List.getD (List.getD x.l i default).l (Int.toNat (p i)) default).needs, encR (List.getD (List.getD x.l i default).l (Int.toNat (p i)) default).bars] c = over (nth [fz Fz.nil 0 0 fun (x x_2 : Nat) => any, fz Fz.nil 0 0 fun (x x_2 : Nat) => any]) 0 2 (List.brecOn (motive := fun (x : List AV) => Nat → AV) [encR (List.getD (List.getD x.l i default).l (Int.toNat (p i)) default).needs, encR (List.getD (List.getD x.l i default).l (Int.toNat (p i)) default).bars] nth._f) c) ∧ Q AEx.ret (St.mk [(6, ref 2 0), (7, AV.bool true)] [cells false 2 (nth [encPacks x, encR gl]), cells false 8 fun (a : Nat) => int i64 (p a), cells false 2 (nth [encR (List.getD (List.getD x.l i default).l (Int.toNat (p i)) default).needs, encR (List.getD (List.getD x.l i default).l (Int.toNat (p i)) default).bars])] g))) (fun _ => by kernel_rfl) ⟨(by omega), ⟨(by omega), ⟨fun c1 => have c1 : p i = -1 := (beq_iff_eq.mp c1); ⟨(by omega), ⟨(fun c hc => match c, hc with | 0, _ => (by kernel_rfl) | 1, _ => (by kernel_rfl) ), ?_⟩⟩, fun c1 => have c1 : ¬p i = -1 := (beq_eq_false_iff_ne.mp c1); ⟨(by kernel_rfl), ⟨(by omega), ⟨(by omega), ⟨(by omega), ⟨(by omega), ⟨(by omega), ⟨(by omega), ⟨(by omega), ⟨(by omega), ⟨(fun c hc => match c, hc with | 0, _ => (by kernel_rfl) | 1, _ => (by kernel_rfl) ), ?_⟩⟩⟩⟩⟩⟩⟩⟩⟩⟩⟩⟩⟩
  · refine (retQ_le (retQ_drop (tup 2 (nth [agg 2 (nth [fz Fz.nil 0 0 fun (x x_2 : Nat) => any, fz Fz.nil 0 0 fun (x x_2 : Nat) => any]), AV.bool false])) ([0 + (TyI.mk ((fun (x : TypeInfo) => x.desc) Tryd.prog.types[44]) Tryd.prog.types[45].size Tryd.prog.types[45].bytes (cellA (ofVal (Value.agg #[Value.slice none 0 0, Value.slice none 0 0]))) (isAggD ((fun (x : TypeInfo) => x.desc) Tryd.prog.types[44])) (flatTy Tryd.prog 45)).size ≤ 2]) (by kernel_rfl) (by exact ⟨(by decide), trivial⟩) ⟨⟨trivial, ⟨⟨trivial, trivial⟩, trivial⟩⟩, trivial⟩ rfl) (Le.tup (fun j hj => match j, hj with | 0, _ => (Le.agg (fun j hj => match j, hj with | 0, _ => Le.nil | 1, _ => Le.nil )) | 1, _ => (Le.of_eq (by kernel_rfl)) )))
  · omega
theorem c_release_s (R : Res) (x : Ix) (gl : KL Rng) (p : Nat → Int) (i : Nat) (hp : List AObj) (g : R.σ) (h : (p i == -1) = false) (hi : i < 8) (hx : i < x.l.length) (h0 : -1 ≤ p i) (h1 : p i < (x.l.getD i default).l.length) : Does Tryd.prog R 99 [encMkt x gl, encPlan p, .int .i64 i] hp g (.ret (.tup 2 (nth [encRel ((x.l.getD i default).l.getD (p i).toNat default), .bool true]))) hp g := by
  have h : ¬ p i = -1 := by simpa using h
  refine does_any' (fun R g => ?_) (by exact ⟨⟨⟨trivial, trivial⟩, trivial⟩, ⟨⟨⟨⟨⟨⟨⟨⟨⟨trivial, trivial⟩, trivial⟩, trivial⟩, trivial⟩, trivial⟩, trivial⟩, trivial⟩, trivial⟩, ⟨trivial, trivial⟩⟩⟩) R hp g
  refine spec_of_wp (nt := 24) (rs := [.cell 6 45, .tmp 7]) (k0 := 0) (by kernel_rfl) (by kernel_rfl) (by kernel_rfl) rfl ?_
  refine vcQ [] (lkL [(0, [2, 3, 4, 6]), (1, [2, 3, 4, 6, 11]), (2, [6, 7]), (3, [6, 7])]) (lkL [(2, [(1, ROrc.val (Orc.obj (nth [fz Fz.nil 0 0 fun (x x_1 : Nat) => any, fz Fz.nil 0 0 fun (x x_1 : Nat) => any])))]), (3, [(11, ROrc.val (Orc.obj (nth [encR (List.getD (List.getD x.l i default).l (Int.toNat (p i)) default).needs, encR (List.getD (List.getD x.l i default).l (Int.toNat (p i)) default).bars])))])]) (fun (Q : AEx → St R.σ → Prop) => (0 ≤ (↑i : Int) ∧ (↑i : Int) < (↑8 : Int)) ∧ i + 1 ≤ 8 ∧ ((p i == -1) = true → 2 ≤ 2 ∧ (∀ (c : Nat), c < 2 → nth [fz Fz.nil 0 0 fun (x x_2 : Nat) => any, fz Fz.nil 0 0 fun (x x_2 : Nat) => any] c = over (nth [fz Fz.nil 0 0 fun (x x_2 : Nat) => any, fz Fz.nil 0 0 fun (x x_2 : Nat) => any]) 0 2 (List.brecOn (motive := fun (x : List AV) => Nat → AV) [fz Fz.nil 0 0 fun (x x_2 : Nat) => any, fz Fz.nil 0 0 fun (x x_2 : Nat) => any] nth._f) c) ∧ Q AEx.ret (St.mk [(6, ref 2 0), (7, AV.bool false)] [cells false 2 (nth [encPacks x, encR gl]), cells false 8 fun (a : Nat) => int i64 (p a), cells false 2 (nth [fz Fz.nil 0 0 fun (x x_2 : Nat) => any, fz Fz.nil 0 0 fun (x x_2 : Nat) => any])] g)) ∧ ((p i == -1) = false → Tables.follows Tryd.prog.toTables Departure.mixedOrders = true ∧ 1 ≤ 2 ∧ (0 ≤ (↑i : Int) ∧ (↑i : Int) < (↑(List.length x.l) : Int)) ∧ 1 ≤ 1 ∧ (0 ≤ (↑i : Int) ∧ (↑i : Int) < (↑8 : Int)) ∧ i + 1 ≤ 8 ∧ (0 ≤ p i ∧ p i < (↑(List.length (List.getD x.l i default).l) : Int)) ∧ 2 ≤ 2 ∧ 2 ≤ 2 ∧ (∀ (c : Nat), c < 2 → nth [encR (List.getD (List.getD x.l i default).l (Int.toNat (p i)) default).needs, encR (List.getD (List.getD x.l i default).l (Int.toNat (p i)) default).bars] c = over (nth [fz Fz.nil 0 0 fun (x x_2 : Nat) => any, fz Fz.nil 0 0 fun (x x_2 : Nat) => any]) 0 2 (List.brecOn (motive := fun (x : List AV) => Nat → AV) [encR (List.getD (List.getD x.l i default).l (Int.toNat (p i)) default).needs, encR (List.getD (List.getD x.l i default).l (Int.toNat (p i)) default).bars] nth._f) c) ∧ Q AEx.ret (St.mk [(6, ref 2 0), (7, AV.bool true)] [cells false 2 (nth [encPacks x, encR gl]), cells false 8 fun (a : Nat) => int i64 (p a), cells false 2 (nth [encR (List.getD (List.getD x.l i default).l (Int.toNat (p i)) default).needs, encR (List.getD (List.getD x.l i default).l (Int.toNat (p i)) default).bars])] g))) (fun _ => by kernel_rfl) ⟨(by omega), ⟨(by omega), ⟨fun c1 => have c1 : p i = -1 := (beq_iff_eq.mp c1); ⟨(by omega), ⟨(fun c hc => match c, hc with | 0, _ => (by kernel_rfl) | 1, _ => (by kernel_rfl) ), ?_⟩⟩, fun c1 => have c1 : ¬p i = -1 := (beq_eq_false_iff_ne.mp c1); ⟨(by kernel_rfl), ⟨(by omega), ⟨(by omega), ⟨(by omega), ⟨(by omega), ⟨(by omega), ⟨(by omega), ⟨(by omega), ⟨(by omega), ⟨(fun c hc => match c, hc with | 0, _ => (by kernel_rfl) | 1, _ => (by kernel_rfl) ), ?_⟩⟩⟩⟩⟩⟩⟩⟩⟩⟩⟩⟩⟩
  · exact absurd c1 h
  · refine (retQ_le (retQ_drop (tup 2 (nth [agg 2 (nth [fz (List.getD (List.getD x.l i default).l (Int.toNat (p i)) default).needs.2 3 (List.length (List.getD (List.getD x.l i default).l (Int.toNat (p i)) default).needs.l) fun (i_1 : Nat) => rngC (List.getD (List.getD (List.getD x.l i default).l (Int.toNat (p i)) default).needs.l i_1 default), fz (List.getD (List.getD x.l i default).l (Int.toNat (p i)) default).bars.2 3 (List.length (List.getD (List.getD x.l i default).l (Int.toNat (p i)) default).bars.l) fun (i_1 : Nat) => rngC (List.getD (List.getD (List.getD x.l i default).l (Int.toNat (p i)) default).bars.l i_1 default)]), AV.bool true])) ([0 + (TyI.mk ((fun (x : TypeInfo) => x.desc) Tryd.prog.types[44]) Tryd.prog.types[45].size Tryd.prog.types[45].bytes (cellA (ofVal (Value.agg #[Value.slice none 0 0, Value.slice none 0 0]))) (isAggD ((fun (x : TypeInfo) => x.desc) Tryd.prog.types[44])) (flatTy Tryd.prog 45)).size ≤ 2]) (by kernel_rfl) (by exact ⟨(by decide), trivial⟩) ⟨⟨trivial, ⟨⟨trivial, trivial⟩, trivial⟩⟩, trivial⟩ rfl) (Le.of_eq (by kernel_rfl)))
end Go.Avm.Pack
namespace Go.Avm.Pack
open Go Go.Avm Go.Proofs
open Go.IntKind (i64 u64)
open Go.Avm.AV (int bool any fz fp sl ow ref fn ifc val agg tup)
open Go.Avm.AObj (cells dead)
open Go.Avm.Oc (ret)
set_option maxRecDepth 4000
def rangesB (x : Ix) (l : List Rng) (most : Nat) (own : Int) : Bool := decide (l.length ≤ most) && l.all (otherB x own)
theorem dec4 (n : Nat) : decide ((n : Int) ≤ 4) = decide (n ≤ 4) := by rw [decide_eq_decide]; omega
theorem relB_eq {x : Ix} {i : Int} {r : Rel} : relB x i r = (rangesB x r.needs.l 4 i && rangesB x r.bars.l 4 i) := by
  unfold relB rangesB
  rw [dec4, dec4]
  cases decide (r.needs.l.length ≤ 4) <;> cases decide (r.bars.l.length ≤ 4) <;> cases r.needs.l.all (otherB x i) <;> cases r.bars.l.all (otherB x i) <;> rfl
def smallB (x : Ix) (most : Nat) : Bool := !(decide (most < x.l.length) && decide (x.l.length ≤ 8) || decide (9 < x.l.length)) && allN' x.l.length (fun i => decide ((x.l.getD i default).l.length ≤ 6) && allN' (x.l.getD i default).l.length (fun k => decide (((x.l.getD i default).l.getD k default).needs.l.length ≤ 5) && decide (((x.l.getD i default).l.getD k default).bars.l.length ≤ 5)))
end Go.Avm.Pack
namespace Go.Avm.Pack
open Go Go.Avm Go.Proofs
open Go.IntKind (i64 u64)
open Go.Avm.AV (int bool any fz fp sl ow ref fn ifc val agg tup)
open Go.Avm.AObj (cells dead)
open Go.Avm.Oc (ret)
set_option maxRecDepth 4000

theorem ofInt_nat (n : Nat) : BitVec.ofInt 64 (n : Int) = BitVec.ofNat 64 n := by
  apply BitVec.eq_of_toNat_eq
  simp
theorem wrap_nat {n : Nat} (h : n < 2 ^ 64) : IntKind.u64.wrap (n : Int) = n := by
  simp only [IntKind.wrap, IntKind.bits, IntKind.signed]; simp; omega
theorem shr_nat (s i : Nat) (hi : i < 64) : ((s : Int).fdiv (2 ^ min i 64)) = ((s >>> i : Nat) : Int) := by
  rw [Nat.min_eq_left (by omega), Int.fdiv_eq_ediv_of_nonneg _ (by exact Int.le_of_lt (Int.pow_pos (by decide))), Nat.shiftRight_eq_div_pow]
  simp
theorem bit_test (s i : Nat) (hs : s < 2 ^ 64) (hi : i < 64) : IntKind.u64.wrap ↑(BitVec.ofInt 64 ((s : Int).fdiv (2 ^ min i 64)) &&& BitVec.ofInt 64 1).toNat = if s.testBit i then 1 else 0 := by
  rw [shr_nat s i hi, ofInt_nat, show (1 : Int) = ((1 : Nat) : Int) from rfl, ofInt_nat, BitVec.toNat_and, BitVec.toNat_ofNat, BitVec.toNat_ofNat]
  have h1 : s >>> i < 2 ^ 64 := Nat.lt_of_le_of_lt (Nat.shiftRight_le _ _) hs
  rw [Nat.mod_eq_of_lt h1, show (1 % 2 ^ 64 : Nat) = 1 from rfl, Nat.and_one_is_mod]
  have h2 : s.testBit i = decide (s >>> i % 2 = 1) := by
    rw [Nat.testBit_eq_decide_div_mod_eq, Nat.shiftRight_eq_div_pow]
  rw [wrap_nat (by omega), h2]
  rcases Nat.mod_two_eq_zero_or_one (s >>> i) with h | h <;> simp [h]
theorem bit_set (s i : Nat) (hs : s < 2 ^ 64) (hi : i < 64) : IntKind.u64.wrap ↑(BitVec.ofInt 64 (s : Int) ||| BitVec.ofInt 64 (IntKind.u64.wrap (1 * 2 ^ min i 64))).toNat = ((s ||| 2 ^ i : Nat) : Int) := by
  have hp : 2 ^ i < 2 ^ 64 := Nat.pow_lt_pow_right (by decide) hi
  rw [Nat.min_eq_left (by omega), Int.one_mul, show ((2 : Int) ^ i) = ((2 ^ i : Nat) : Int) by simp, wrap_nat hp, ofInt_nat, ofInt_nat, BitVec.toNat_or, BitVec.toNat_ofNat, BitVec.toNat_ofNat, Nat.mod_eq_of_lt hs, Nat.mod_eq_of_lt hp]
  exact wrap_nat (Nat.or_lt_two_pow hs hp)
def room (s : Nat) : Nat := ((List.range 8).filter fun i => !s.testBit i).length
theorem room_le {s t : Nat} (h : ∀ b, s.testBit b = true → t.testBit b = true) : room t ≤ room s := by
  unfold room
  rw [← List.countP_eq_length_filter, ← List.countP_eq_length_filter]
  refine List.countP_mono_left (fun b _ hb => ?_)
  cases hs : s.testBit b with
  | false => rfl
  | true => rw [h b hs] at hb; cases hb
theorem countP_lt {α : Type} {p q : α → Bool} : ∀ {l : List α}, (∀ a ∈ l, q a = true → p a = true) → ∀ {x : α}, x ∈ l → p x = true → q x = false → l.countP q < l.countP p
  | [], _, _, hx, _, _ => by cases hx
  | a :: l, h, x, hx, hp, hq => by
    have mono : l.countP q ≤ l.countP p := List.countP_mono_left (fun b hb h' => h b (List.mem_cons_of_mem _ hb) h')
    rcases List.mem_cons.1 hx with e | e
    · subst e
      rw [List.countP_cons_of_pos hp, List.countP_cons_of_neg (by rw [hq]; simp)]
      omega
    · have := countP_lt (l := l) (fun b hb h' => h b (List.mem_cons_of_mem _ hb) h') e hp hq
      rw [List.countP_cons, List.countP_cons]
      have h1 := h a List.mem_cons_self
      split <;> split <;> first | omega | (rename_i h2 h3; exact absurd (h1 h2) h3)
theorem testBit_set (s i b : Nat) : (s ||| 2 ^ i).testBit b = (s.testBit b || decide (i = b)) := by
  rw [Nat.testBit_or, Nat.testBit_two_pow]
theorem room_set {s i : Nat} (hi : i < 8) (h : s.testBit i = false) : room (s ||| 2 ^ i) < room s := by
  unfold room
  rw [← List.countP_eq_length_filter, ← List.countP_eq_length_filter]
  refine countP_lt (x := i) (fun b _ hb => ?_) (by simpa using hi) (by simp [h]) (by simp [testBit_set])
  rw [testBit_set] at hb
  cases hs : s.testBit b with
  | false => rfl
  | true => rw [hs] at hb; simp at hb
def dfs (x : Ix) (p : Nat → Int) : Nat → Nat → Nat → Nat
  | 0, s, _ => s
  | n + 1, s, i => if s.testBit i then s else (relOf x p i).needs.l.foldl (fun s r => dfs x p n s r.pack.toNat) (s ||| 2 ^ i)
theorem foldl_keep {α : Type} {P : Nat → Prop} {f : Nat → α → Nat} : ∀ {l : List α} {s : Nat}, (∀ s, P s → ∀ a ∈ l, P (f s a)) → P s → P (l.foldl f s)
  | [], _, _, h => h
  | a :: l, s, hf, h => foldl_keep (l := l) (fun s hs b hb => hf s hs b (List.mem_cons_of_mem _ hb)) (hf s h a List.mem_cons_self)
theorem foldl_take_succ {α β : Type} {f : β → α → β} {l : List α} {s : β} {j : Nat} {d : α} (h : j < l.length) : (l.take (j + 1)).foldl f s = f ((l.take j).foldl f s) (l.getD j d) := by
  rw [List.take_succ_eq_append_getElem h, List.foldl_append, List.getD_eq_getElem?_getD, List.getElem?_eq_getElem h]
  rfl
theorem dfs_grows (x : Ix) (p : Nat → Int) : ∀ (n s i : Nat), ∀ b, s.testBit b = true → (dfs x p n s i).testBit b = true
  | 0, _, _, _, h => h
  | n + 1, s, i, b, h => by
    unfold dfs
    split
    · exact h
    · refine foldl_keep (P := fun s => s.testBit b = true) (fun s hs a _ => dfs_grows x p n s _ b hs) ?_
      rw [testBit_set, h]; rfl
theorem or_lt8 {s i : Nat} (hs : s < 2 ^ 8) (hi : i < 8) : s ||| 2 ^ i < 2 ^ 8 := Nat.or_lt_two_pow hs (Nat.pow_lt_pow_right (by decide) hi)
def wfN (x : Ix) (p : Nat → Int) : Prop := ∀ i, i < x.l.length → ∀ r ∈ (relOf x p i).needs.l, 0 ≤ r.pack ∧ r.pack < x.l.length
theorem dfs_lt {x : Ix} {p : Nat → Int} (h8 : x.l.length ≤ 8) (hw : wfN x p) : ∀ (n s i : Nat), i < x.l.length → s < 2 ^ 8 → dfs x p n s i < 2 ^ 8
  | 0, _, _, _, h => h
  | n + 1, s, i, hi, h => by
    unfold dfs
    split
    · exact h
    · refine foldl_keep (P := fun s => s < 2 ^ 8) (fun s hs r hr => ?_) (or_lt8 h (by omega))
      have := hw i hi r hr
      exact dfs_lt h8 hw n s _ (by omega) hs

def inP (x : Ix) (p : Nat → Int) : Prop := ∀ i, i < x.l.length → -1 ≤ p i ∧ p i < ((x.l.getD i default).l.length : Int)
theorem c_release (R : Res) (x : Ix) (gl : KL Rng) (p : Nat → Int) (i : Nat) (hp : List AObj) (g : R.σ) (h8 : x.l.length ≤ 8) (hx : i < x.l.length) (h : inP x p) : Does Tryd.prog R 99 [encMkt x gl, encPlan p, .int .i64 i] hp g (.ret (.tup 2 (nth [encRel (relOf x p i), .bool (p i != -1)]))) hp g := by
  have h1 := h i hx
  unfold relOf
  by_cases e : p i = -1
  · rw [if_pos e, show (p i != -1) = false by simp [e]]
    exact c_release_n R x gl p i hp g (by simpa using e) (by omega)
  · rw [if_neg e, show (p i != -1) = true by simpa using e]
    exact c_release_s R x gl p i hp g (by simpa using e) (by omega) hx h1.1 h1.2
def hpN (x : Ix) (gl : KL Rng) (p : Nat → Int) (s : Nat) : List AObj := [.cells false 2 (nth [encPacks x, encR gl]), .cells false 8 (fun a => .int .i64 (p a)), .cells false 1 (fun _ => .int .u64 s), .cells false 1 (nth [.fn 105 0 (nth []) 4 (nth [.ref 2 0, .ref 0 0, .ref 1 0, .ref 3 0])])]
def smallN (x : Ix) (p : Nat → Int) : Prop := ∀ i, (relOf x p i).needs.l.length < 1000000
theorem needed1_all (x : Ix) (gl : KL Rng) (p : Nat → Int) (h8 : x.l.length ≤ 8) (h : inP x p) (hw : wfN x p) (hl : smallN x p) (n : Nat) : ∀ (R : Res) (g : R.σ) (k : Int) (s : Nat), 0 ≤ k → k < x.l.length → s < 2 ^ 8 → room s ≤ n → Does Tryd.prog R 105 [.int .i64 k, .ref 2 0, .ref 0 0, .ref 1 0, .ref 3 0] (hpN x gl p s) g (.ret (.tup 0 (nth []))) (hpN x gl p (dfs x p n s k.toNat)) g := by
  induction n with
  | zero =>
    intro R g k s hk hx hs hr
    obtain ⟨i, rfl⟩ := Int.eq_ofNat_of_zero_le hk
    have hx : i < x.l.length := by omega
    rw [Int.toNat_natCast]
    have ht : s.testBit i = true := by
      cases e : s.testBit i with
      | true => rfl
      | false => have := room_set (s := s) (i := i) (by omega) e; omega
    refine spec_of_wp (nt := 38) (rs := []) (k0 := 4) (by kernel_rfl) (by kernel_rfl) (by kernel_rfl) rfl ?_
    refine vcQ [] (lkL [(0, [0, 1, 2, 3, 4, 14]), (1, [0, 2, 3, 4]), (2, [4, 6]), (3, [4, 27, 28, 29])]) (lkL [(1, [(4, ROrc.val (Orc.obj (nth [int u64 (IntKind.wrap u64 (↑(BitVec.toNat (BitVec.ofInt 64 (↑s : Int) ||| BitVec.ofInt 64 (IntKind.wrap u64 (1 * 2 ^ min i 64)))) : Int))])))]), (2, [(3, ROrc.pcall (tup 2 (nth [encRel (relOf x p i), AV.bool (p i != -1)]))), (8, ROrc.val (Orc.obj (nth [encR (relOf x p i).needs, encR (relOf x p i).bars])))])]) (fun (Q : AEx → St R.σ → Prop) => 1 ≤ 1 ∧ 0 ≤ (↑i : Int) ∧ ((IntKind.wrap u64 (↑(BitVec.toNat (BitVec.ofInt 64 (Int.fdiv (↑s : Int) (2 ^ min i 64)) &&& BitVec.ofInt 64 1)) : Int) == 1) = true → Q AEx.ret (St.mk [(0, int i64 (↑i : Int)), (1, ref 2 0), (2, ref 0 0), (3, ref 1 0), (4, ref 3 0), (14, AV.bool (IntKind.wrap u64 (↑(BitVec.toNat (BitVec.ofInt 64 (Int.fdiv (↑s : Int) (2 ^ min i 64)) &&& BitVec.ofInt 64 1)) : Int) == 1))] [cells false 2 (nth [encPacks x, encR gl]), cells false 8 fun (a : Nat) => int i64 (p a), cells false 1 fun (x : Nat) => int u64 (↑s : Int), cells false 1 (nth [fn 105 0 (nth []) 4 (nth [ref 2 0, ref 0 0, ref 1 0, ref 3 0])])] g)) ∧ ((IntKind.wrap u64 (↑(BitVec.toNat (BitVec.ofInt 64 (Int.fdiv (↑s : Int) (2 ^ min i 64)) &&& BitVec.ofInt 64 1)) : Int) == 1) = false → Tables.follows Tryd.prog.toTables Departure.mixedOrders = true ∧ 1 ≤ 1 ∧ 0 ≤ (↑i : Int) ∧ 1 ≤ 1 ∧ (∀ (c : Nat), c < 1 → nth [int u64 (IntKind.wrap u64 (↑(BitVec.toNat (BitVec.ofInt 64 (↑s : Int) ||| BitVec.ofInt 64 (IntKind.wrap u64 (1 * 2 ^ min i 64)))) : Int))] c = over (fun (x : Nat) => int u64 (↑s : Int)) 0 1 (fun (x : Nat) => int u64 (IntKind.wrap u64 (↑(BitVec.toNat (BitVec.ofInt 64 (↑s : Int) ||| BitVec.ofInt 64 (IntKind.wrap u64 (1 * 2 ^ min i 64)))) : Int))) c) ∧ 2 ≤ 2 ∧ 8 ≤ 8 ∧ (∀ (hp : List AObj) (g : R.σ), true = true ∧ Does Tryd.prog R 99 [encMkt x gl, encPlan p, int i64 (↑i : Int)] hp g (ret (tup 2 (nth [encRel (relOf x p i), AV.bool (p i != -1)]))) hp g) ∧ 2 ≤ 2 ∧ (∀ (c : Nat), c < 2 → nth [encR (relOf x p i).needs, encR (relOf x p i).bars] c = over (nth [fz Fz.nil 0 0 fun (x x_2 : Nat) => any, fz Fz.nil 0 0 fun (x x_2 : Nat) => any]) 0 2 (List.brecOn (motive := fun (x : List AV) => Nat → AV) [encR (relOf x p i).needs, encR (relOf x p i).bars] nth._f) c) ∧ 1 ≤ 2 ∧ Wp Tryd.prog R 38 4 Rd.top (bodyOf Tryd.prog 105) [1, 1, 1, 1, 0] (contQ Tryd.prog R 38 4 Rd.top (bodyOf Tryd.prog 105) Q [Kont.blk 0]) (St.mk [(4, ref 3 0), (27, encR (relOf x p i).needs), (28, int i64 (↑(List.length (relOf x p i).needs.l) : Int)), (29, int i64 0)] [cells false 2 (nth [encPacks x, encR gl]), cells false 8 fun (a : Nat) => int i64 (p a), cells false 1 (nth [int u64 (IntKind.wrap u64 (↑(BitVec.toNat (BitVec.ofInt 64 (↑s : Int) ||| BitVec.ofInt 64 (IntKind.wrap u64 (1 * 2 ^ min i 64)))) : Int))]), cells false 1 (nth [fn 105 0 (nth []) 4 (nth [ref 2 0, ref 0 0, ref 1 0, ref 3 0])]), cells false 2 (nth [encR (relOf x p i).needs, encR (relOf x p i).bars])] g))) (fun _ => by kernel_rfl) ⟨(by omega), ⟨(by omega), ⟨fun c1 => have c1 : IntKind.wrap u64 (↑(BitVec.toNat (BitVec.ofInt 64 (Int.fdiv (↑s : Int) (2 ^ min i 64)) &&& BitVec.ofInt 64 1)) : Int) = 1 := (beq_iff_eq.mp c1); ?_, fun c1 => have c1 : ¬IntKind.wrap u64 (↑(BitVec.toNat (BitVec.ofInt 64 (Int.fdiv (↑s : Int) (2 ^ min i 64)) &&& BitVec.ofInt 64 1)) : Int) = 1 := (beq_eq_false_iff_ne.mp c1); ⟨(by kernel_rfl), ⟨(by omega), ⟨(by omega), ⟨(by omega), ⟨(fun c hc => match c, hc with | 0, _ => (by kernel_rfl) ), ⟨(by omega), ⟨(by omega), ⟨(fun _ _ => ⟨rfl, (Go.Avm.Pack.c_release _ _ _ _ _ _ _ (by omega) (by omega) (by omega))⟩), ⟨(by omega), ⟨(fun c hc => match c, hc with | 0, _ => (by kernel_rfl) | 1, _ => (by kernel_rfl) ), ⟨(by omega), ?_⟩⟩⟩⟩⟩⟩⟩⟩⟩⟩⟩⟩⟩⟩
    · have hd : dfs x p 0 s i = s := rfl
      rw [hd]
      refine (retQ_le (retQ_same' _ _ rfl trivial rfl rfl rfl) (Le.refl _))
    · rw [bit_test s i (by omega) (by omega), ht] at c1
      exact absurd rfl c1
  | succ n ih =>
    intro R g k s hk hx hs hr
    obtain ⟨i, rfl⟩ := Int.eq_ofNat_of_zero_le hk
    have hx : i < x.l.length := by omega
    rw [Int.toNat_natCast]
    refine spec_of_wp (nt := 38) (rs := []) (k0 := 4) (by kernel_rfl) (by kernel_rfl) (by kernel_rfl) rfl ?_
    refine vcQ [] (lkL [(0, [0, 1, 2, 3, 4, 14]), (1, [0, 2, 3, 4]), (2, [4, 6]), (3, [4, 27, 28, 29])]) (lkL [(1, [(4, ROrc.val (Orc.obj (nth [int u64 (IntKind.wrap u64 (↑(BitVec.toNat (BitVec.ofInt 64 (↑s : Int) ||| BitVec.ofInt 64 (IntKind.wrap u64 (1 * 2 ^ min i 64)))) : Int))])))]), (2, [(3, ROrc.pcall (tup 2 (nth [encRel (relOf x p i), AV.bool (p i != -1)]))), (8, ROrc.val (Orc.obj (nth [encR (relOf x p i).needs, encR (relOf x p i).bars])))])]) (fun (Q : AEx → St R.σ → Prop) => 1 ≤ 1 ∧ 0 ≤ (↑i : Int) ∧ ((IntKind.wrap u64 (↑(BitVec.toNat (BitVec.ofInt 64 (Int.fdiv (↑s : Int) (2 ^ min i 64)) &&& BitVec.ofInt 64 1)) : Int) == 1) = true → Q AEx.ret (St.mk [(0, int i64 (↑i : Int)), (1, ref 2 0), (2, ref 0 0), (3, ref 1 0), (4, ref 3 0), (14, AV.bool (IntKind.wrap u64 (↑(BitVec.toNat (BitVec.ofInt 64 (Int.fdiv (↑s : Int) (2 ^ min i 64)) &&& BitVec.ofInt 64 1)) : Int) == 1))] [cells false 2 (nth [encPacks x, encR gl]), cells false 8 fun (a : Nat) => int i64 (p a), cells false 1 fun (x : Nat) => int u64 (↑s : Int), cells false 1 (nth [fn 105 0 (nth []) 4 (nth [ref 2 0, ref 0 0, ref 1 0, ref 3 0])])] g)) ∧ ((IntKind.wrap u64 (↑(BitVec.toNat (BitVec.ofInt 64 (Int.fdiv (↑s : Int) (2 ^ min i 64)) &&& BitVec.ofInt 64 1)) : Int) == 1) = false → Tables.follows Tryd.prog.toTables Departure.mixedOrders = true ∧ 1 ≤ 1 ∧ 0 ≤ (↑i : Int) ∧ 1 ≤ 1 ∧ (∀ (c : Nat), c < 1 → nth [int u64 (IntKind.wrap u64 (↑(BitVec.toNat (BitVec.ofInt 64 (↑s : Int) ||| BitVec.ofInt 64 (IntKind.wrap u64 (1 * 2 ^ min i 64)))) : Int))] c = over (fun (x : Nat) => int u64 (↑s : Int)) 0 1 (fun (x : Nat) => int u64 (IntKind.wrap u64 (↑(BitVec.toNat (BitVec.ofInt 64 (↑s : Int) ||| BitVec.ofInt 64 (IntKind.wrap u64 (1 * 2 ^ min i 64)))) : Int))) c) ∧ 2 ≤ 2 ∧ 8 ≤ 8 ∧ (∀ (hp : List AObj) (g : R.σ), true = true ∧ Does Tryd.prog R 99 [encMkt x gl, encPlan p, int i64 (↑i : Int)] hp g (ret (tup 2 (nth [encRel (relOf x p i), AV.bool (p i != -1)]))) hp g) ∧ 2 ≤ 2 ∧ (∀ (c : Nat), c < 2 → nth [encR (relOf x p i).needs, encR (relOf x p i).bars] c = over (nth [fz Fz.nil 0 0 fun (x x_2 : Nat) => any, fz Fz.nil 0 0 fun (x x_2 : Nat) => any]) 0 2 (List.brecOn (motive := fun (x : List AV) => Nat → AV) [encR (relOf x p i).needs, encR (relOf x p i).bars] nth._f) c) ∧ 1 ≤ 2 ∧ Wp Tryd.prog R 38 4 Rd.top (bodyOf Tryd.prog 105) [1, 1, 1, 1, 0] (contQ Tryd.prog R 38 4 Rd.top (bodyOf Tryd.prog 105) Q [Kont.blk 0]) (St.mk [(4, ref 3 0), (27, encR (relOf x p i).needs), (28, int i64 (↑(List.length (relOf x p i).needs.l) : Int)), (29, int i64 0)] [cells false 2 (nth [encPacks x, encR gl]), cells false 8 fun (a : Nat) => int i64 (p a), cells false 1 (nth [int u64 (IntKind.wrap u64 (↑(BitVec.toNat (BitVec.ofInt 64 (↑s : Int) ||| BitVec.ofInt 64 (IntKind.wrap u64 (1 * 2 ^ min i 64)))) : Int))]), cells false 1 (nth [fn 105 0 (nth []) 4 (nth [ref 2 0, ref 0 0, ref 1 0, ref 3 0])]), cells false 2 (nth [encR (relOf x p i).needs, encR (relOf x p i).bars])] g))) (fun _ => by kernel_rfl) ⟨(by omega), ⟨(by omega), ⟨fun c1 => have c1 : IntKind.wrap u64 (↑(BitVec.toNat (BitVec.ofInt 64 (Int.fdiv (↑s : Int) (2 ^ min i 64)) &&& BitVec.ofInt 64 1)) : Int) = 1 := (beq_iff_eq.mp c1); ?_, fun c1 => have c1 : ¬IntKind.wrap u64 (↑(BitVec.toNat (BitVec.ofInt 64 (Int.fdiv (↑s : Int) (2 ^ min i 64)) &&& BitVec.ofInt 64 1)) : Int) = 1 := (beq_eq_false_iff_ne.mp c1); ⟨(by kernel_rfl), ⟨(by omega), ⟨(by omega), ⟨(by omega), ⟨(fun c hc => match c, hc with | 0, _ => (by kernel_rfl) ), ⟨(by omega), ⟨(by omega), ⟨(fun _ _ => ⟨rfl, (Go.Avm.Pack.c_release _ _ _ _ _ _ _ (by omega) (by omega) (by omega))⟩), ⟨(by omega), ⟨(fun c hc => match c, hc with | 0, _ => (by kernel_rfl) | 1, _ => (by kernel_rfl) ), ⟨(by omega), ?_⟩⟩⟩⟩⟩⟩⟩⟩⟩⟩⟩⟩⟩⟩
    · have ht : s.testBit i = true := by
        rw [bit_test s i (by omega) (by omega)] at c1
        cases e : s.testBit i with
        | true => rfl
        | false => rw [e] at c1; simp at c1
      have hd : dfs x p (n + 1) s i = s := by unfold dfs; rw [if_pos ht]
      rw [hd]
      refine (retQ_le (retQ_same' _ _ rfl trivial rfl rfl rfl) (Le.refl _))
    · have ht : s.testBit i = false := by
        rw [bit_test s i (by omega) (by omega)] at c1
        cases e : s.testBit i with
        | false => rfl
        | true => rw [e] at c1; simp at c1
      have hroom := room_set (by omega) ht
      have hlen := hl i
      have hS : ∀ j, room (((relOf x p i).needs.l.take j).foldl (fun s r => dfs x p n s r.pack.toNat) (s ||| 2 ^ i)) ≤ n ∧ ((relOf x p i).needs.l.take j).foldl (fun s r => dfs x p n s r.pack.toNat) (s ||| 2 ^ i) < 2 ^ 8 := by
        intro j
        refine ⟨Nat.le_trans (room_le (s := s ||| 2 ^ i) (fun b hb => ?_)) (by omega), ?_⟩
        · exact foldl_keep (P := fun s => s.testBit b = true) (fun s hs a _ => dfs_grows x p n s _ b hs) hb
        · refine foldl_keep (P := fun s => s < 2 ^ 8) (fun s hs r hr => ?_) (or_lt8 hs (by omega))
          have := hw i hx r (List.mem_of_mem_take hr)
          exact dfs_lt h8 hw n s _ (by omega) hs
      refine (wp_loop (by kernel_rfl) (fun (j : Nat) => ⟨[(4, ref 3 0), (27, encR (relOf x p i).needs), (28, int i64 (↑(List.length (relOf x p i).needs.l) : Int)), (29, .int .i64 (j : Int))], (hpN x gl p (((relOf x p i).needs.l.take j).foldl (fun s r => dfs x p n s r.pack.toNat) (s ||| 2 ^ i)) ++ [AObj.dead]), g⟩) (fun (j : Nat) => (j ≤ (relOf x p i).needs.l.length)) (fun (j : Nat) => ((relOf x p i).needs.l.length - j)) 0 (to_le ⟨(Le.refl _), ⟨(Le.refl _), ⟨(Le.refl _), ⟨(Le.of_eq (by kernel_rfl)), trivial⟩⟩⟩⟩ ⟨LeO.rflc, ⟨LeO.rflc, ⟨⟨rfl, Nat.le_refl _, fun j hj => match j, hj with | 0, _ => (Le.of_eq ?_) ⟩, ⟨LeO.rflc, ⟨(LeO.dead _), trivial⟩⟩⟩⟩⟩ rfl) ?_ (fun j hi => ?_))
      · exact congrArg (AV.int IntKind.u64) (bit_set s i (by omega) (by omega))
      · exact Nat.zero_le _
      · obtain ⟨hS1, hS2⟩ := hS j
        have hj : j < (relOf x p i).needs.l.length → 0 ≤ ((relOf x p i).needs.l.getD j default).pack ∧ ((relOf x p i).needs.l.getD j default).pack < x.l.length := fun hj => hw i hx _ (getD_mem _ _ hj)
        refine vcQ [] (lkL [(4, [4, 27, 28, 29, 30]), (5, [4, 9, 27, 28, 29]), (6, [4, 27, 28, 29]), (7, [4, 27, 28, 29])]) (lkL [(5, [(3, ROrc.val (Orc.obj (nth [int i64 (List.getD (relOf x p i).needs.l j default).pack, int i64 (List.getD (relOf x p i).needs.l j default).low, int i64 (List.getD (relOf x p i).needs.l j default).high])))]), (6, [(3, ROrc.call (tup 0 fun (j : Nat) => any) [cells false 2 (nth [encPacks x, encR gl]), cells false 8 fun (a : Nat) => int i64 (p a), cells false 1 fun (j_1 : Nat) => int u64 (↑(dfs x p n (List.foldl (fun (s : Nat) (r : Rng) => dfs x p n s (Int.toNat r.pack)) (s ||| 2 ^ i) (List.take j (relOf x p i).needs.l)) (Int.toNat (List.getD (relOf x p i).needs.l j default).pack)) : Int), cells false 1 (nth [fn 105 0 (nth []) 4 (nth [ref 2 0, ref 0 0, ref 1 0, ref 3 0])]), dead, cells false 3 (nth [int i64 (List.getD (relOf x p i).needs.l j default).pack, int i64 (List.getD (relOf x p i).needs.l j default).low, int i64 (List.getD (relOf x p i).needs.l j default).high])] g)])]) (fun (Q : AEx → St R.σ → Prop) => (decide ((↑j : Int) < (↑(List.length (relOf x p i).needs.l) : Int)) = true → (0 ≤ (↑j : Int) ∧ (↑j : Int) < (↑(List.length (relOf x p i).needs.l) : Int)) ∧ 3 ≤ 3 ∧ 3 ≤ 3 ∧ (∀ (c : Nat), c < 3 → nth [int i64 (List.getD (relOf x p i).needs.l j default).pack, int i64 (List.getD (relOf x p i).needs.l j default).low, int i64 (List.getD (relOf x p i).needs.l j default).high] c = over (nth [int i64 0, int i64 0, int i64 0]) 0 3 (List.brecOn (motive := fun (x : List AV) => Nat → AV) [int i64 (List.getD (relOf x p i).needs.l j default).pack, int i64 (List.getD (relOf x p i).needs.l j default).low, int i64 (List.getD (relOf x p i).needs.l j default).high] nth._f) c) ∧ 1 ≤ 1 ∧ 1 ≤ 3 ∧ (true = true ∧ Does Tryd.prog R 105 [int i64 (List.getD (relOf x p i).needs.l j default).pack, ref 2 0, ref 0 0, ref 1 0, ref 3 0] [cells false 2 (nth [encPacks x, encR gl]), cells false 8 fun (a : Nat) => int i64 (p a), cells false 1 fun (x_2 : Nat) => int u64 (↑(List.foldl (fun (s : Nat) (r : Rng) => dfs x p n s (Int.toNat r.pack)) (s ||| 2 ^ i) (List.take j (relOf x p i).needs.l)) : Int), cells false 1 (nth [fn 105 0 (nth []) 4 (nth [ref 2 0, ref 0 0, ref 1 0, ref 3 0])]), dead, cells false 3 (nth [int i64 (List.getD (relOf x p i).needs.l j default).pack, int i64 (List.getD (relOf x p i).needs.l j default).low, int i64 (List.getD (relOf x p i).needs.l j default).high])] g (ret (tup 0 fun (j : Nat) => any)) [cells false 2 (nth [encPacks x, encR gl]), cells false 8 fun (a : Nat) => int i64 (p a), cells false 1 fun (j_1 : Nat) => int u64 (↑(dfs x p n (List.foldl (fun (s : Nat) (r : Rng) => dfs x p n s (Int.toNat r.pack)) (s ||| 2 ^ i) (List.take j (relOf x p i).needs.l)) (Int.toNat (List.getD (relOf x p i).needs.l j default).pack)) : Int), cells false 1 (nth [fn 105 0 (nth []) 4 (nth [ref 2 0, ref 0 0, ref 1 0, ref 3 0])]), dead, cells false 3 (nth [int i64 (List.getD (relOf x p i).needs.l j default).pack, int i64 (List.getD (relOf x p i).needs.l j default).low, int i64 (List.getD (relOf x p i).needs.l j default).high])] g) ∧ (-9223372036854775808 ≤ (↑j : Int) + 1 ∧ (↑j : Int) + 1 ≤ 9223372036854775807) ∧ Q AEx.normal (St.mk [(4, ref 3 0), (27, encR (relOf x p i).needs), (28, int i64 (↑(List.length (relOf x p i).needs.l) : Int)), (29, int i64 ((↑j : Int) + 1))] [cells false 2 (nth [encPacks x, encR gl]), cells false 8 fun (a : Nat) => int i64 (p a), cells false 1 fun (j_1 : Nat) => int u64 (↑(dfs x p n (List.foldl (fun (s : Nat) (r : Rng) => dfs x p n s (Int.toNat r.pack)) (s ||| 2 ^ i) (List.take j (relOf x p i).needs.l)) (Int.toNat (List.getD (relOf x p i).needs.l j default).pack)) : Int), cells false 1 (nth [fn 105 0 (nth []) 4 (nth [ref 2 0, ref 0 0, ref 1 0, ref 3 0])]), dead, cells false 3 (nth [int i64 (List.getD (relOf x p i).needs.l j default).pack, int i64 (List.getD (relOf x p i).needs.l j default).low, int i64 (List.getD (relOf x p i).needs.l j default).high])] g)) ∧ (decide ((↑j : Int) < (↑(List.length (relOf x p i).needs.l) : Int)) = false → Q (AEx.exit 0) (St.mk [(4, ref 3 0), (27, encR (relOf x p i).needs), (28, int i64 (↑(List.length (relOf x p i).needs.l) : Int)), (29, int i64 (↑j : Int)), (30, AV.bool (decide ((↑j : Int) < (↑(List.length (relOf x p i).needs.l) : Int))))] [cells false 2 (nth [encPacks x, encR gl]), cells false 8 fun (a : Nat) => int i64 (p a), cells false 1 fun (x_2 : Nat) => int u64 (↑(List.foldl (fun (s : Nat) (r : Rng) => dfs x p n s (Int.toNat r.pack)) (s ||| 2 ^ i) (List.take j (relOf x p i).needs.l)) : Int), cells false 1 (nth [fn 105 0 (nth []) 4 (nth [ref 2 0, ref 0 0, ref 1 0, ref 3 0])]), dead] g))) (fun _ => by kernel_rfl) ⟨fun c1 => have c1 : (↑j : Int) < (↑(List.length (relOf x p i).needs.l) : Int) := (of_decide_eq_true c1); ⟨(by omega), ⟨(by omega), ⟨(by omega), ⟨(fun c hc => match c, hc with | 0, _ => (by kernel_rfl) | 1, _ => (by kernel_rfl) | 2, _ => (by kernel_rfl) ), ⟨(by omega), ⟨(by omega), ⟨⟨rfl, (does_sub' [0, 1, 2, 3] 6 (fun R g => ih R g ((List.getD (relOf x p i).needs.l j default).pack) (List.foldl (fun (s : Nat) (r : Rng) => dfs x p n s (Int.toNat r.pack)) (s ||| 2 ^ i) (List.take j (relOf x p i).needs.l)) (by simp at * <;> omega) (by simp at * <;> omega) (by omega) (by omega)) rfl rfl rfl (by exact ⟨⟨rfl, Nat.le_refl _, fun j hj => match j, hj with | 0, _ => (Le.refl _) | 1, _ => (Le.refl _) ⟩, ⟨⟨rfl, Nat.le_refl _, fun j hj => match j, hj with | 0, _ => (Le.refl _) | 1, _ => (Le.refl _) | 2, _ => (Le.refl _) | 3, _ => (Le.refl _) | 4, _ => (Le.refl _) | 5, _ => (Le.refl _) | 6, _ => (Le.refl _) | 7, _ => (Le.refl _) ⟩, ⟨⟨rfl, Nat.le_refl _, fun j hj => match j, hj with | 0, _ => (Le.refl _) ⟩, ⟨⟨rfl, Nat.le_refl _, fun j hj => match j, hj with | 0, _ => (Le.fn (fun i hi => absurd hi (by omega)) (fun i hi => match i, hi with | 0, _ => (Le.refl _) | 1, _ => (Le.refl _) | 2, _ => (Le.refl _) | 3, _ => (Le.refl _) )) ⟩, trivial⟩⟩⟩⟩) (by exact ⟨by omega, ⟨by omega, ⟨by omega, ⟨by omega, trivial⟩⟩⟩⟩) (by exact ⟨le_ren (by exact trivial), ⟨(Le.refl _), ⟨(Le.refl _), ⟨(Le.refl _), ⟨(Le.refl _), trivial⟩⟩⟩⟩⟩) (by exact le_unren (by exact trivial)) (by exact ⟨⟨rfl, Nat.le_refl _, fun j hj => match j, hj with | 0, _ => (Le.refl _) | 1, _ => (Le.refl _) ⟩, ⟨⟨rfl, Nat.le_refl _, fun j hj => match j, hj with | 0, _ => (Le.refl _) | 1, _ => (Le.refl _) | 2, _ => (Le.refl _) | 3, _ => (Le.refl _) | 4, _ => (Le.refl _) | 5, _ => (Le.refl _) | 6, _ => (Le.refl _) | 7, _ => (Le.refl _) ⟩, ⟨LeO.rflc, ⟨⟨rfl, Nat.le_refl _, fun j hj => match j, hj with | 0, _ => (Le.fn (fun i hi => absurd hi (by omega)) (fun i hi => match i, hi with | 0, _ => (Le.refl _) | 1, _ => (Le.refl _) | 2, _ => (Le.refl _) | 3, _ => (Le.refl _) )) ⟩, ⟨trivial, ⟨LeO.rflc, trivial⟩⟩⟩⟩⟩⟩))⟩, ⟨(by omega), ?_⟩⟩⟩⟩⟩⟩⟩⟩, fun c1 => have c1 : ¬(↑j : Int) < (↑(List.length (relOf x p i).needs.l) : Int) := (of_decide_eq_false c1); ?_⟩
        · refine (next_round (j + 1) (to_sel [0, 1, 2, 3, 4] 6 rfl rfl rfl rfl rfl ⟨(Le.refl _), ⟨(Le.refl _), ⟨(Le.refl _), ⟨(Le.refl _), trivial⟩⟩⟩⟩ ⟨⟨rfl, Nat.le_refl _, fun j hj => match j, hj with | 0, _ => (Le.refl _) | 1, _ => (Le.refl _) ⟩, ⟨⟨rfl, Nat.le_refl _, fun j hj => match j, hj with | 0, _ => (Le.refl _) | 1, _ => (Le.refl _) | 2, _ => (Le.refl _) | 3, _ => (Le.refl _) | 4, _ => (Le.refl _) | 5, _ => (Le.refl _) | 6, _ => (Le.refl _) | 7, _ => (Le.refl _) ⟩, ⟨⟨rfl, Nat.le_refl _, fun j hj => match j, hj with | 0, _ => (Le.of_eq ?_) ⟩, ⟨⟨rfl, Nat.le_refl _, fun j hj => match j, hj with | 0, _ => (Le.fn (fun i hi => absurd hi (by omega)) (fun i hi => match i, hi with | 0, _ => (Le.refl _) | 1, _ => (Le.refl _) | 2, _ => (Le.refl _) | 3, _ => (Le.refl _) )) ⟩, ⟨trivial, trivial⟩⟩⟩⟩⟩) ?_ ?_)
          · exact congrArg (fun n : Nat => AV.int IntKind.u64 n) (foldl_take_succ (f := fun s (r : Rng) => dfs x p n s r.pack.toNat) (by omega)).symm
          · omega
          · omega
        · have hj' : j = (relOf x p i).needs.l.length := by omega
          have hd : dfs x p (n + 1) s i = (((relOf x p i).needs.l.take j).foldl (fun s r => dfs x p n s r.pack.toNat) (s ||| 2 ^ i)) := by
            rw [hj', List.take_length]
            conv => lhs; unfold dfs
            rw [ht]; rfl
          rw [hd]
          refine ⟨_, To.refl _, (retQ_le (retQ_take' 4 _ _ rfl trivial (by omega) trivial ⟨(fun j hj => match j, hj with | 0, _ => trivial | 1, _ => trivial ), ⟨(fun j hj => match j, hj with | 0, _ => trivial | 1, _ => trivial | 2, _ => trivial | 3, _ => trivial | 4, _ => trivial | 5, _ => trivial | 6, _ => trivial | 7, _ => trivial ), ⟨(fun j hj => match j, hj with | 0, _ => trivial ), ⟨(fun j hj => match j, hj with | 0, _ => ⟨trivial, ⟨⟨⟨⟨trivial, (show 3 ≤ 4 by omega)⟩, (show 1 ≤ 4 by omega)⟩, (show 2 ≤ 4 by omega)⟩, (show 4 ≤ 4 by omega)⟩⟩ ), trivial⟩⟩⟩⟩ (by kernel_rfl) rfl rfl) (Le.refl _))⟩
theorem c_needed1 (x : Ix) (gl : KL Rng) (p : Nat → Int) (h8 : x.l.length ≤ 8) (h : inP x p) (hw : wfN x p) (hl : smallN x p) (R : Res) (g : R.σ) (k : Int) (s : Nat) (hk : 0 ≤ k) (hx : k < x.l.length) (hs : s < 2 ^ 8) (hr : room s ≤ 8) : Does Tryd.prog R 105 [.int .i64 k, .ref 2 0, .ref 0 0, .ref 1 0, .ref 3 0] (hpN x gl p s) g (.ret (.tup 0 (nth []))) (hpN x gl p (dfs x p 8 s k.toNat)) g :=
  needed1_all x gl p h8 h hw hl 8 R g k s hk hx hs hr
def neededN (x : Ix) (gl : List Rng) (p : Nat → Int) : Nat := gl.foldl (fun s r => dfs x p 8 s r.pack.toNat) 0
theorem neededN_lt {x : Ix} {gl : List Rng} {p : Nat → Int} (h8 : x.l.length ≤ 8) (hw : wfN x p) (hgl : ∀ r ∈ gl, 0 ≤ r.pack ∧ r.pack < x.l.length) : neededN x gl p < 2 ^ 8 := by
  refine foldl_keep (P := fun s => s < 2 ^ 8) (fun s hs r hr => ?_) (by decide)
  have := hgl r hr
  exact dfs_lt h8 hw 8 s _ (by omega) hs
theorem c_needed (R : Res) (x : Ix) (gl : KL Rng) (p : Nat → Int) (hp : List AObj) (g : R.σ) (h8 : x.l.length ≤ 8) (h : inP x p) (hw : wfN x p) (hl : smallN x p) (hg : gl.l.length < 1000000) (hgl : ∀ r ∈ gl.l, 0 ≤ r.pack ∧ r.pack < x.l.length) : Does Tryd.prog R 98 [encMkt x gl, encPlan p] hp g (.ret (.int .u64 (neededN x gl.l p))) hp g := by
  refine does_any' (fun R g => ?_) (by exact ⟨⟨⟨trivial, trivial⟩, trivial⟩, ⟨⟨⟨⟨⟨⟨⟨⟨⟨trivial, trivial⟩, trivial⟩, trivial⟩, trivial⟩, trivial⟩, trivial⟩, trivial⟩, trivial⟩, trivial⟩⟩) R hp g
  refine spec_of_wp (nt := 23) (rs := [.tmp 4]) (k0 := 0) (by kernel_rfl) (by kernel_rfl) (by kernel_rfl) rfl ?_
  refine vcQ [] (lkL [(0, [2, 3]), (1, [2, 3, 5]), (2, [2, 3, 5, 6]), (3, [2, 5, 6]), (4, [5, 6, 11, 12, 13])]) (lkL [(3, [(1, ROrc.val (Orc.obj (nth [fn 105 0 (nth []) 4 (nth [ref 2 0, ref 0 0, ref 1 0, ref 3 0])])))])]) (fun (Q : AEx → St R.σ → Prop) => 1 ≤ 1 ∧ (∀ (c : Nat), c < 1 → nth [fn 105 0 (nth []) 4 (nth [ref 2 0, ref 0 0, ref 1 0, ref 3 0])] c = over (fun (a : Nat) => AV.nilf) 0 1 (fun (x : Nat) => fn 105 0 (nth []) 4 (nth [ref 2 0, ref 0 0, ref 1 0, ref 3 0])) c) ∧ 2 ≤ 2 ∧ Wp Tryd.prog R 23 0 Rd.top (bodyOf Tryd.prog 98) [1, 1, 1, 1, 0, 1, 0] (contQ Tryd.prog R 23 0 Rd.top (bodyOf Tryd.prog 98) Q [Kont.blk 0, Kont.seq [1, 1, 1, 1, 1]]) (St.mk [(5, ref 2 0), (6, ref 3 0), (11, encR gl), (12, int i64 (↑(List.length gl.l) : Int)), (13, int i64 0)] [cells false 2 (nth [encPacks x, encR gl]), cells false 8 fun (a : Nat) => int i64 (p a), cells false 1 fun (a : Nat) => int u64 0, cells false 1 (nth [fn 105 0 (nth []) 4 (nth [ref 2 0, ref 0 0, ref 1 0, ref 3 0])])] g)) (fun _ => by kernel_rfl) ⟨(by omega), ⟨(fun c hc => match c, hc with | 0, _ => (by kernel_rfl) ), ⟨(by omega), ?_⟩⟩⟩
  have hS : ∀ j, room ((gl.l.take j).foldl (fun s r => dfs x p 8 s r.pack.toNat) 0) ≤ 8 ∧ (gl.l.take j).foldl (fun s r => dfs x p 8 s r.pack.toNat) 0 < 2 ^ 8 := by
    intro j
    refine ⟨Nat.le_trans (List.length_filter_le _ _) (by simp), ?_⟩
    refine foldl_keep (P := fun s => s < 2 ^ 8) (fun s hs r hr => ?_) (by decide)
    have := hgl r (List.mem_of_mem_take hr)
    exact dfs_lt h8 hw 8 s _ (by omega) hs
  refine (wp_loop (by kernel_rfl) (fun (j : Nat) => ⟨[(5, ref 2 0), (6, ref 3 0), (11, encR gl), (12, int i64 (↑(List.length gl.l) : Int)), (13, .int .i64 (j : Int))], (hpN x gl p ((gl.l.take j).foldl (fun s r => dfs x p 8 s r.pack.toNat) 0)), g⟩) (fun (j : Nat) => (j ≤ gl.l.length)) (fun (j : Nat) => (gl.l.length - j)) 0 (to_le ⟨(Le.refl _), ⟨(Le.refl _), ⟨(Le.refl _), ⟨(Le.refl _), ⟨(Le.of_eq (by kernel_rfl)), trivial⟩⟩⟩⟩⟩ ⟨LeO.rflc, ⟨LeO.rflc, ⟨LeO.rflc, ⟨LeO.rflc, trivial⟩⟩⟩⟩ rfl) ?_ (fun j hi => ?_))
  · exact Nat.zero_le _
  · obtain ⟨hS1, hS2⟩ := hS j
    have hj : j < gl.l.length → 0 ≤ (gl.l.getD j default).pack ∧ (gl.l.getD j default).pack < x.l.length := fun hj => hgl _ (getD_mem _ _ hj)
    refine vcQ [] (lkL [(5, [5, 6, 11, 12, 13, 14]), (6, [5, 6, 8, 11, 12, 13]), (7, [5, 6, 11, 12, 13]), (8, [5, 6, 11, 12, 13])]) (lkL [(6, [(3, ROrc.val (Orc.obj (nth [int i64 (List.getD gl.l j default).pack, int i64 (List.getD gl.l j default).low, int i64 (List.getD gl.l j default).high])))]), (7, [(3, ROrc.call (tup 0 fun (j : Nat) => any) [cells false 2 (nth [encPacks x, encR gl]), cells false 8 fun (a : Nat) => int i64 (p a), cells false 1 fun (j_1 : Nat) => int u64 (↑(dfs x p 8 (List.foldl (fun (s : Nat) (r : Rng) => dfs x p 8 s (Int.toNat r.pack)) 0 (List.take j gl.l)) (Int.toNat (List.getD gl.l j default).pack)) : Int), cells false 1 (nth [fn 105 0 (nth []) 4 (nth [ref 2 0, ref 0 0, ref 1 0, ref 3 0])]), cells false 3 (nth [int i64 (List.getD gl.l j default).pack, int i64 (List.getD gl.l j default).low, int i64 (List.getD gl.l j default).high])] g)])]) (fun (Q : AEx → St R.σ → Prop) => (decide ((↑j : Int) < (↑(List.length gl.l) : Int)) = true → (0 ≤ (↑j : Int) ∧ (↑j : Int) < (↑(List.length gl.l) : Int)) ∧ 3 ≤ 3 ∧ 3 ≤ 3 ∧ (∀ (c : Nat), c < 3 → nth [int i64 (List.getD gl.l j default).pack, int i64 (List.getD gl.l j default).low, int i64 (List.getD gl.l j default).high] c = over (nth [int i64 0, int i64 0, int i64 0]) 0 3 (List.brecOn (motive := fun (x : List AV) => Nat → AV) [int i64 (List.getD gl.l j default).pack, int i64 (List.getD gl.l j default).low, int i64 (List.getD gl.l j default).high] nth._f) c) ∧ 1 ≤ 1 ∧ 1 ≤ 3 ∧ (true = true ∧ Does Tryd.prog R 105 [int i64 (List.getD gl.l j default).pack, ref 2 0, ref 0 0, ref 1 0, ref 3 0] [cells false 2 (nth [encPacks x, encR gl]), cells false 8 fun (a : Nat) => int i64 (p a), cells false 1 fun (x_2 : Nat) => int u64 (↑(List.foldl (fun (s : Nat) (r : Rng) => dfs x p 8 s (Int.toNat r.pack)) 0 (List.take j gl.l)) : Int), cells false 1 (nth [fn 105 0 (nth []) 4 (nth [ref 2 0, ref 0 0, ref 1 0, ref 3 0])]), cells false 3 (nth [int i64 (List.getD gl.l j default).pack, int i64 (List.getD gl.l j default).low, int i64 (List.getD gl.l j default).high])] g (ret (tup 0 fun (j : Nat) => any)) [cells false 2 (nth [encPacks x, encR gl]), cells false 8 fun (a : Nat) => int i64 (p a), cells false 1 fun (j_1 : Nat) => int u64 (↑(dfs x p 8 (List.foldl (fun (s : Nat) (r : Rng) => dfs x p 8 s (Int.toNat r.pack)) 0 (List.take j gl.l)) (Int.toNat (List.getD gl.l j default).pack)) : Int), cells false 1 (nth [fn 105 0 (nth []) 4 (nth [ref 2 0, ref 0 0, ref 1 0, ref 3 0])]), cells false 3 (nth [int i64 (List.getD gl.l j default).pack, int i64 (List.getD gl.l j default).low, int i64 (List.getD gl.l j default).high])] g) ∧ (-9223372036854775808 ≤ (↑j : Int) + 1 ∧ (↑j : Int) + 1 ≤ 9223372036854775807) ∧ Q AEx.normal (St.mk [(5, ref 2 0), (6, ref 3 0), (11, encR gl), (12, int i64 (↑(List.length gl.l) : Int)), (13, int i64 ((↑j : Int) + 1))] [cells false 2 (nth [encPacks x, encR gl]), cells false 8 fun (a : Nat) => int i64 (p a), cells false 1 fun (j_1 : Nat) => int u64 (↑(dfs x p 8 (List.foldl (fun (s : Nat) (r : Rng) => dfs x p 8 s (Int.toNat r.pack)) 0 (List.take j gl.l)) (Int.toNat (List.getD gl.l j default).pack)) : Int), cells false 1 (nth [fn 105 0 (nth []) 4 (nth [ref 2 0, ref 0 0, ref 1 0, ref 3 0])]), cells false 3 (nth [int i64 (List.getD gl.l j default).pack, int i64 (List.getD gl.l j default).low, int i64 (List.getD gl.l j default).high])] g)) ∧ (decide ((↑j : Int) < (↑(List.length gl.l) : Int)) = false → Q (AEx.exit 0) (St.mk [(5, ref 2 0), (6, ref 3 0), (11, encR gl), (12, int i64 (↑(List.length gl.l) : Int)), (13, int i64 (↑j : Int)), (14, AV.bool (decide ((↑j : Int) < (↑(List.length gl.l) : Int))))] [cells false 2 (nth [encPacks x, encR gl]), cells false 8 fun (a : Nat) => int i64 (p a), cells false 1 fun (x_2 : Nat) => int u64 (↑(List.foldl (fun (s : Nat) (r : Rng) => dfs x p 8 s (Int.toNat r.pack)) 0 (List.take j gl.l)) : Int), cells false 1 (nth [fn 105 0 (nth []) 4 (nth [ref 2 0, ref 0 0, ref 1 0, ref 3 0])])] g))) (fun _ => by kernel_rfl) ⟨fun c1 => have c1 : (↑j : Int) < (↑(List.length gl.l) : Int) := (of_decide_eq_true c1); ⟨(by omega), ⟨(by omega), ⟨(by omega), ⟨(fun c hc => match c, hc with | 0, _ => (by kernel_rfl) | 1, _ => (by kernel_rfl) | 2, _ => (by kernel_rfl) ), ⟨(by omega), ⟨(by omega), ⟨⟨rfl, (does_sub' [0, 1, 2, 3] 5 (fun R g => Go.Avm.Pack.c_needed1 (x) (gl) (p) (by omega) (by omega) (by omega) (by omega) R g ((List.getD gl.l j default).pack) (List.foldl (fun (s : Nat) (r : Rng) => dfs x p 8 s (Int.toNat r.pack)) 0 (List.take j gl.l)) (by simp at * <;> omega) (by simp at * <;> omega) (by omega) (by omega)) rfl rfl rfl (by exact ⟨⟨rfl, Nat.le_refl _, fun j hj => match j, hj with | 0, _ => (Le.refl _) | 1, _ => (Le.refl _) ⟩, ⟨⟨rfl, Nat.le_refl _, fun j hj => match j, hj with | 0, _ => (Le.refl _) | 1, _ => (Le.refl _) | 2, _ => (Le.refl _) | 3, _ => (Le.refl _) | 4, _ => (Le.refl _) | 5, _ => (Le.refl _) | 6, _ => (Le.refl _) | 7, _ => (Le.refl _) ⟩, ⟨⟨rfl, Nat.le_refl _, fun j hj => match j, hj with | 0, _ => (Le.refl _) ⟩, ⟨⟨rfl, Nat.le_refl _, fun j hj => match j, hj with | 0, _ => (Le.fn (fun i hi => absurd hi (by omega)) (fun i hi => match i, hi with | 0, _ => (Le.refl _) | 1, _ => (Le.refl _) | 2, _ => (Le.refl _) | 3, _ => (Le.refl _) )) ⟩, trivial⟩⟩⟩⟩) (by exact ⟨by omega, ⟨by omega, ⟨by omega, ⟨by omega, trivial⟩⟩⟩⟩) (by exact ⟨le_ren (by exact trivial), ⟨(Le.refl _), ⟨(Le.refl _), ⟨(Le.refl _), ⟨(Le.refl _), trivial⟩⟩⟩⟩⟩) (by exact le_unren (by exact trivial)) (by exact ⟨⟨rfl, Nat.le_refl _, fun j hj => match j, hj with | 0, _ => (Le.refl _) | 1, _ => (Le.refl _) ⟩, ⟨⟨rfl, Nat.le_refl _, fun j hj => match j, hj with | 0, _ => (Le.refl _) | 1, _ => (Le.refl _) | 2, _ => (Le.refl _) | 3, _ => (Le.refl _) | 4, _ => (Le.refl _) | 5, _ => (Le.refl _) | 6, _ => (Le.refl _) | 7, _ => (Le.refl _) ⟩, ⟨LeO.rflc, ⟨⟨rfl, Nat.le_refl _, fun j hj => match j, hj with | 0, _ => (Le.fn (fun i hi => absurd hi (by omega)) (fun i hi => match i, hi with | 0, _ => (Le.refl _) | 1, _ => (Le.refl _) | 2, _ => (Le.refl _) | 3, _ => (Le.refl _) )) ⟩, ⟨LeO.rflc, trivial⟩⟩⟩⟩⟩))⟩, ⟨(by omega), ?_⟩⟩⟩⟩⟩⟩⟩⟩, fun c1 => have c1 : ¬(↑j : Int) < (↑(List.length gl.l) : Int) := (of_decide_eq_false c1); ?_⟩
    · refine (next_round (j + 1) (to_sel [0, 1, 2, 3] 5 rfl rfl rfl rfl rfl ⟨(Le.refl _), ⟨(Le.refl _), ⟨(Le.refl _), ⟨(Le.refl _), ⟨(Le.refl _), trivial⟩⟩⟩⟩⟩ ⟨⟨rfl, Nat.le_refl _, fun j hj => match j, hj with | 0, _ => (Le.refl _) | 1, _ => (Le.refl _) ⟩, ⟨⟨rfl, Nat.le_refl _, fun j hj => match j, hj with | 0, _ => (Le.refl _) | 1, _ => (Le.refl _) | 2, _ => (Le.refl _) | 3, _ => (Le.refl _) | 4, _ => (Le.refl _) | 5, _ => (Le.refl _) | 6, _ => (Le.refl _) | 7, _ => (Le.refl _) ⟩, ⟨⟨rfl, Nat.le_refl _, fun j hj => match j, hj with | 0, _ => (Le.of_eq ?_) ⟩, ⟨⟨rfl, Nat.le_refl _, fun j hj => match j, hj with | 0, _ => (Le.fn (fun i hi => absurd hi (by omega)) (fun i hi => match i, hi with | 0, _ => (Le.refl _) | 1, _ => (Le.refl _) | 2, _ => (Le.refl _) | 3, _ => (Le.refl _) )) ⟩, trivial⟩⟩⟩⟩) ?_ ?_)
      · exact congrArg (fun n : Nat => AV.int IntKind.u64 n) (foldl_take_succ (f := fun s (r : Rng) => dfs x p 8 s r.pack.toNat) (by omega)).symm
      · omega
      · omega
    · have hj' : j = gl.l.length := by omega
      rw [hj', List.take_length]
      refine ⟨_, To.refl _, vcQ [] (lkL [(9, [4])]) (fun _ => []) (fun (Q : AEx → St R.σ → Prop) => 1 ≤ 1 ∧ Q AEx.ret (St.mk [(4, int u64 (↑(List.foldl (fun (s : Nat) (r : Rng) => dfs x p 8 s (Int.toNat r.pack)) 0 gl.l) : Int))] [cells false 2 (nth [encPacks x, encR gl]), cells false 8 fun (a : Nat) => int i64 (p a), cells false 1 fun (x_2 : Nat) => int u64 (↑(List.foldl (fun (s : Nat) (r : Rng) => dfs x p 8 s (Int.toNat r.pack)) 0 gl.l) : Int), cells false 1 (nth [fn 105 0 (nth []) 4 (nth [ref 2 0, ref 0 0, ref 1 0, ref 3 0])])] g)) (fun _ => by kernel_rfl) ⟨(by omega), ?_⟩⟩
      refine (retQ_le (retQ_drop _ _ rfl trivial trivial rfl) (Le.of_eq (by kernel_rfl)))
end Go.Avm.Pack
namespace Go.Avm.Pack
open Go Go.Avm Go.Proofs
open Go.IntKind (i64 u64)
open Go.Avm.AV (int bool any fz fp sl ow ref fn ifc val agg tup)
open Go.Avm.AObj (cells dead)
open Go.Avm.Oc (ret)
set_option maxRecDepth 4000
def fstN (n : Nat) (q : Nat → Bool) : Option Nat := (List.range n).find? q
theorem fstN_some {n i : Nat} {q : Nat → Bool} (h : i < n) (hq : q i = true) (hb : ∀ j, j < i → q j = false) : fstN n q = some i := by
  unfold fstN
  rw [List.find?_range_eq_some]
  refine ⟨hq, by simpa using h, fun j hj => ?_⟩
  simp [hb j hj]
theorem fstN_none {n : Nat} {q : Nat → Bool} (hb : ∀ j, j < n → q j = false) : fstN n q = none := by
  unfold fstN
  rw [List.find?_eq_none]
  intro j hj
  simp [hb j (by simpa using hj)]
def faultG (gl : List Rng) (p : Nat → Int) : Option Nat := fstN gl.length fun j => !(inR (p (gl.getD j default).pack.toNat) (gl.getD j default))
def metB (p : Nat → Int) (r : Rng) : Bool := inR (p r.pack.toNat) r
def badB (x : Ix) (gl : List Rng) (p : Nat → Int) (pass i : Nat) : Bool := (p i != -1) && (if pass = 0 then !((relOf x p i).needs.l.all (metB p)) else if pass = 1 then (relOf x p i).bars.l.any (metB p) else !((neededN x gl p).testBit i))
def lookR (x : Ix) (gl : List Rng) (p : Nat → Int) : Option (Int × Int) :=
  match fstN gl.length (fun j => !(metB p (gl.getD j default))) with
  | some j => some (1, j)
  | none => match fstN x.l.length (badB x gl p 0) with
    | some i => some (2, i)
    | none => match fstN x.l.length (badB x gl p 1) with
      | some i => some (3, i)
      | none => match fstN x.l.length (badB x gl p 2) with
        | some i => some (4, i)
        | none => none
theorem look_some {x : Ix} {gl : List Rng} {p : Nat → Int} {a i : Nat} (hG : fstN gl.length (fun j => !(metB p (gl.getD j default))) = none) (h4 : ∀ b, b < a → ∀ i, i < x.l.length → badB x gl p b i = false) (h6 : ∀ k, k < i → badB x gl p a k = false) (hi : i < x.l.length) (hb : badB x gl p a i = true) (ha : a < 3) :
    lookR x gl p = some ((a : Int) + 2, (i : Int)) := by
  have n0 : 0 < a → fstN x.l.length (badB x gl p 0) = none := fun h => fstN_none (h4 0 h)
  have n1 : 1 < a → fstN x.l.length (badB x gl p 1) = none := fun h => fstN_none (h4 1 h)
  have hs := fstN_some hi hb h6
  unfold lookR
  rw [hG]
  rcases (show a = 0 ∨ a = 1 ∨ a = 2 by omega) with e | e | e
  · subst e; simp only [hs]; rfl
  · subst e; simp only [n0 (by omega), hs]; rfl
  · subst e; simp only [n0 (by omega), n1 (by omega), hs]; rfl
theorem look_none {x : Ix} {gl : List Rng} {p : Nat → Int} (hG : fstN gl.length (fun j => !(metB p (gl.getD j default))) = none) (h4 : ∀ b, b < 3 → ∀ i, i < x.l.length → badB x gl p b i = false) : lookR x gl p = none := by
  have n0 : fstN x.l.length (badB x gl p 0) = none := fstN_none (h4 0 (by omega))
  have n1 : fstN x.l.length (badB x gl p 1) = none := fstN_none (h4 1 (by omega))
  have n2 : fstN x.l.length (badB x gl p 2) = none := fstN_none (h4 2 (by omega))
  unfold lookR
  simp only [hG, n0, n1, n2]
def wfB (x : Ix) (p : Nat → Int) : Prop := ∀ i, i < x.l.length → ∀ r ∈ (relOf x p i).bars.l, 0 ≤ r.pack ∧ r.pack < x.l.length
def smallB' (x : Ix) (p : Nat → Int) : Prop := ∀ i, (relOf x p i).bars.l.length < 1000000
def lookOc : Option (Int × Int) → Oc
  | none => .ret (.tup 0 (nth []))
  | some (f, i) => .pan (.ifc 93 (.agg 2 (nth [.int .i64 f, .int .i64 i])))
theorem look_all (R : Res) (x : Ix) (gl : KL Rng) (p : Nat → Int) (hp : List AObj) (g : R.σ) (h8 : x.l.length ≤ 8) (h : inP x p) (hw : wfN x p) (hwb : wfB x p) (hl : smallN x p) (hlb : smallB' x p) (hg : gl.l.length < 1000000) (hgl : ∀ r ∈ gl.l, 0 ≤ r.pack ∧ r.pack < x.l.length) : Does Tryd.prog R 83 [encMkt x gl, encPlan p] hp g (lookOc (lookR x gl.l p)) hp g := by
  refine does_any' (fun R g => ?_) (by exact ⟨⟨⟨trivial, trivial⟩, trivial⟩, ⟨⟨⟨⟨⟨⟨⟨⟨⟨trivial, trivial⟩, trivial⟩, trivial⟩, trivial⟩, trivial⟩, trivial⟩, trivial⟩, trivial⟩, trivial⟩⟩) R hp g
  refine spec_of_wp (nt := 92) (rs := []) (k0 := 0) (by kernel_rfl) (by kernel_rfl) (by kernel_rfl) rfl ?_
  refine vcQ [] (lkL [(0, [2, 3]), (1, [2, 3, 12, 13, 14])]) (fun _ => []) (fun (Q : AEx → St R.σ → Prop) => 2 ≤ 2 ∧ Wp Tryd.prog R 92 0 Rd.top (bodyOf Tryd.prog 83) [1, 0, 1, 0] (contQ Tryd.prog R 92 0 Rd.top (bodyOf Tryd.prog 83) Q [Kont.blk 0, Kont.seq [1, 1]]) (St.mk [(2, ref 0 0), (3, ref 1 0), (12, encR gl), (13, int i64 (↑(List.length gl.l) : Int)), (14, int i64 0)] [cells false 2 (nth [encPacks x, encR gl]), cells false 8 fun (a : Nat) => int i64 (p a)] g)) (fun _ => by kernel_rfl) ⟨(by omega), ?_⟩
  refine (wp_loop (by kernel_rfl) (fun (j : Nat) => ⟨[(2, ref 0 0), (3, ref 1 0), (12, encR gl), (13, int i64 (↑(List.length gl.l) : Int)), (14, .int .i64 (j : Int))], [cells false 2 (nth [encPacks x, encR gl]), cells false 8 fun (a : Nat) => int i64 (p a)], g⟩) (fun (j : Nat) => (j ≤ gl.l.length ∧ ∀ k, k < j → metB p (gl.l.getD k default) = true)) (fun (j : Nat) => (gl.l.length - j)) 0 (to_fr ⟨(Le.refl _), ⟨(Le.refl _), ⟨(Le.refl _), ⟨(Le.refl _), ⟨(Le.of_eq (by kernel_rfl)), trivial⟩⟩⟩⟩⟩ rfl rfl) ?_ (fun j hi => ?_))
  · exact ⟨Nat.zero_le _, fun k hk => absurd hk (by omega)⟩
  · obtain ⟨h1, h2⟩ := hi
    have hj : j < gl.l.length → 0 ≤ (gl.l.getD j default).pack ∧ (gl.l.getD j default).pack < x.l.length := fun hj => hgl _ (getD_mem _ _ hj)
    refine vcQ [] (lkL [(2, [2, 3, 12, 13, 14, 15]), (3, [2, 3, 4, 5, 12, 13, 14]), (4, [2, 3, 4, 12, 13, 14, 22]), (5, [2, 3, 12, 13, 14]), (6, [2, 3, 12, 13, 14])]) (lkL [(3, [(5, ROrc.val (Orc.obj (nth [int i64 (List.getD gl.l j default).pack, int i64 (List.getD gl.l j default).low, int i64 (List.getD gl.l j default).high])))]), (4, [(2, ROrc.pcall (AV.bool (inR (p (Int.toNat (List.getD gl.l j default).pack)) (List.getD gl.l j default))))])]) (fun (Q : AEx → St R.σ → Prop) => (decide ((↑j : Int) < (↑(List.length gl.l) : Int)) = true → (0 ≤ (↑j : Int) ∧ (↑j : Int) < (↑(List.length gl.l) : Int)) ∧ 3 ≤ 3 ∧ 3 ≤ 3 ∧ (∀ (c : Nat), c < 3 → nth [int i64 (List.getD gl.l j default).pack, int i64 (List.getD gl.l j default).low, int i64 (List.getD gl.l j default).high] c = over (nth [int i64 0, int i64 0, int i64 0]) 0 3 (List.brecOn (motive := fun (x : List AV) => Nat → AV) [int i64 (List.getD gl.l j default).pack, int i64 (List.getD gl.l j default).low, int i64 (List.getD gl.l j default).high] nth._f) c) ∧ 8 ≤ 8 ∧ 3 ≤ 3 ∧ (∀ (hp : List AObj) (g : R.σ), true = true ∧ Does Tryd.prog R 97 [encPlan p, encRng (List.getD gl.l j default)] hp g (ret (AV.bool (inR (p (Int.toNat (List.getD gl.l j default).pack)) (List.getD gl.l j default)))) hp g) ∧ ((!inR (p (Int.toNat (List.getD gl.l j default).pack)) (List.getD gl.l j default)) = true → Q (AEx.pan (ifc 93 (agg 2 (nth [int i64 1, int i64 (↑j : Int)])))) (St.mk [(2, ref 0 0), (3, ref 1 0), (12, encR gl), (13, int i64 (↑(List.length gl.l) : Int)), (14, int i64 (↑j : Int))] [cells false 2 (nth [encPacks x, encR gl]), cells false 8 fun (a : Nat) => int i64 (p a), cells false 3 (nth [int i64 (List.getD gl.l j default).pack, int i64 (List.getD gl.l j default).low, int i64 (List.getD gl.l j default).high])] g)) ∧ ((!inR (p (Int.toNat (List.getD gl.l j default).pack)) (List.getD gl.l j default)) = false → (-9223372036854775808 ≤ (↑j : Int) + 1 ∧ (↑j : Int) + 1 ≤ 9223372036854775807) ∧ Q AEx.normal (St.mk [(2, ref 0 0), (3, ref 1 0), (12, encR gl), (13, int i64 (↑(List.length gl.l) : Int)), (14, int i64 ((↑j : Int) + 1))] [cells false 2 (nth [encPacks x, encR gl]), cells false 8 fun (a : Nat) => int i64 (p a), cells false 3 (nth [int i64 (List.getD gl.l j default).pack, int i64 (List.getD gl.l j default).low, int i64 (List.getD gl.l j default).high])] g))) ∧ (decide ((↑j : Int) < (↑(List.length gl.l) : Int)) = false → Q (AEx.exit 0) (St.mk [(2, ref 0 0), (3, ref 1 0), (12, encR gl), (13, int i64 (↑(List.length gl.l) : Int)), (14, int i64 (↑j : Int)), (15, AV.bool (decide ((↑j : Int) < (↑(List.length gl.l) : Int))))] [cells false 2 (nth [encPacks x, encR gl]), cells false 8 fun (a : Nat) => int i64 (p a)] g))) (fun _ => by kernel_rfl) ⟨fun c1 => have c1 : (↑j : Int) < (↑(List.length gl.l) : Int) := (of_decide_eq_true c1); ⟨(by omega), ⟨(by omega), ⟨(by omega), ⟨(fun c hc => match c, hc with | 0, _ => (by kernel_rfl) | 1, _ => (by kernel_rfl) | 2, _ => (by kernel_rfl) ), ⟨(by omega), ⟨(by omega), ⟨(fun _ _ => ⟨rfl, (Go.Avm.Pack.c_meets _ _ _ _ _ (by simp at * <;> omega) (by simp at * <;> omega))⟩), ⟨fun c2 => have c2 : inR (p (Int.toNat (List.getD gl.l j default).pack)) (List.getD gl.l j default) = false := ((Bool.not_eq_true' _).mp c2); ?_, fun c2 => have c2 : inR (p (Int.toNat (List.getD gl.l j default).pack)) (List.getD gl.l j default) = true := ((Bool.not_eq_false' _).mp c2); ⟨(by omega), ?_⟩⟩⟩⟩⟩⟩⟩⟩⟩, fun c1 => have c1 : ¬(↑j : Int) < (↑(List.length gl.l) : Int) := (of_decide_eq_false c1); ?_⟩
    · have : lookR x gl.l p = some (1, (j : Int)) := by
        unfold lookR
        rw [fstN_some (i := j) (by omega) (by simpa [metB] using c2) (fun k hk => by show (!(metB p _)) = false; rw [h2 k hk]; rfl)]
      rw [this]
      refine (panQ_take (P := Tryd.prog) (rs := []) 0 (by omega) ⟨⟨trivial, trivial⟩, trivial⟩ trivial (by kernel_rfl) rfl (Le.refl _))
    · refine (next_round (j + 1) (to_sel [0, 1] 3 rfl rfl rfl rfl rfl ⟨(Le.refl _), ⟨(Le.refl _), ⟨(Le.refl _), ⟨(Le.refl _), ⟨(Le.refl _), trivial⟩⟩⟩⟩⟩ ⟨⟨rfl, Nat.le_refl _, fun j hj => match j, hj with | 0, _ => (Le.refl _) | 1, _ => (Le.refl _) ⟩, ⟨⟨rfl, Nat.le_refl _, fun j hj => match j, hj with | 0, _ => (Le.refl _) | 1, _ => (Le.refl _) | 2, _ => (Le.refl _) | 3, _ => (Le.refl _) | 4, _ => (Le.refl _) | 5, _ => (Le.refl _) | 6, _ => (Le.refl _) | 7, _ => (Le.refl _) ⟩, trivial⟩⟩) ?_ ?_)
      · refine ⟨by omega, fun k hk => ?_⟩
        rcases Nat.lt_or_ge k j with h | h
        · exact h2 k h
        · have : k = j := by omega
          subst this
          exact c2
      · omega
    · refine ⟨_, To.refl _, vcQ [] (lkL [(7, [2, 3, 6]), (8, [2, 3, 6, 30])]) (lkL [(7, [(2, ROrc.pcall (int u64 (↑(neededN x gl.l p) : Int)))])]) (fun (Q : AEx → St R.σ → Prop) => 2 ≤ 2 ∧ 8 ≤ 8 ∧ (∀ (hp : List AObj) (g : R.σ), true = true ∧ Does Tryd.prog R 98 [encMkt x gl, encPlan p] hp g (ret (int u64 (↑(neededN x gl.l p) : Int))) hp g) ∧ Wp Tryd.prog R 92 0 Rd.top (bodyOf Tryd.prog 83) [1, 1, 1, 1, 0] (contQ Tryd.prog R 92 0 Rd.top (bodyOf Tryd.prog 83) Q [Kont.blk 2]) (St.mk [(2, ref 0 0), (3, ref 1 0), (6, int u64 (↑(neededN x gl.l p) : Int)), (30, int i64 0)] [cells false 2 (nth [encPacks x, encR gl]), cells false 8 fun (a : Nat) => int i64 (p a)] g)) (fun _ => by kernel_rfl) ⟨(by omega), ⟨(by omega), ⟨(fun _ _ => ⟨rfl, (Go.Avm.Pack.c_needed _ _ _ _ _ _ (by omega) (by omega) (by omega) (by omega) (by omega) (by omega))⟩), ?_⟩⟩⟩⟩
      have hj : j = gl.l.length := by omega
      have hG : fstN gl.l.length (fun j => !(metB p (gl.l.getD j default))) = none := fstN_none (fun k hk => by show (!(metB p _)) = false; rw [h2 k (by omega)]; rfl)
      have hN := neededN_lt h8 hw hgl
      refine (wp_loop (by kernel_rfl) (fun (a : Nat) => ⟨[(2, ref 0 0), (3, ref 1 0), (6, int u64 (↑(neededN x gl.l p) : Int)), (30, .int .i64 (a : Int))], [cells false 2 (nth [encPacks x, encR gl]), cells false 8 fun (a : Nat) => int i64 (p a)], g⟩) (fun (a : Nat) => (a ≤ 3 ∧ ∀ b, b < a → ∀ i, i < x.l.length → badB x gl.l p b i = false)) (fun (a : Nat) => (3 - a)) 0 (to_fr ⟨(Le.refl _), ⟨(Le.refl _), ⟨(Le.refl _), ⟨(Le.of_eq (by kernel_rfl)), trivial⟩⟩⟩⟩ rfl rfl) ?_ (fun a hi => ?_))
      · exact ⟨Nat.zero_le _, fun b hb => absurd hb (by omega)⟩
      · obtain ⟨h3, h4⟩ := hi
        refine vcQ [] (lkL [(9, [2, 3, 6, 30, 31]), (10, [2, 3, 6, 7, 30]), (11, [2, 3, 6, 7, 30, 36, 37])]) (fun _ => []) (fun (Q : AEx → St R.σ → Prop) => (decide ((↑a : Int) < 3) = true → 1 ≤ 2 ∧ Wp Tryd.prog R 92 0 Rd.top (bodyOf Tryd.prog 83) [1, 1, 1, 1, 0, 0, 1, 1, 0, 0, 1, 1, 0] (contQ Tryd.prog R 92 0 Rd.top (bodyOf Tryd.prog 83) Q [Kont.blk 4, Kont.blk 3, Kont.seq [1, 1, 1, 1, 0, 0, 1, 1, 1]]) (St.mk [(2, ref 0 0), (3, ref 1 0), (6, int u64 (↑(neededN x gl.l p) : Int)), (7, int i64 (↑a : Int)), (30, int i64 (↑a : Int)), (36, int i64 (↑(List.length x.l) : Int)), (37, int i64 0)] [cells false 2 (nth [encPacks x, encR gl]), cells false 8 fun (a : Nat) => int i64 (p a)] g)) ∧ (decide ((↑a : Int) < 3) = false → Q (AEx.exit 2) (St.mk [(2, ref 0 0), (3, ref 1 0), (6, int u64 (↑(neededN x gl.l p) : Int)), (30, int i64 (↑a : Int)), (31, AV.bool (decide ((↑a : Int) < 3)))] [cells false 2 (nth [encPacks x, encR gl]), cells false 8 fun (a : Nat) => int i64 (p a)] g))) (fun _ => by kernel_rfl) ⟨fun c1 => have c1 : (↑a : Int) < 3 := (of_decide_eq_true c1); ⟨(by omega), ?_⟩, fun c1 => have c1 : ¬(↑a : Int) < 3 := (of_decide_eq_false c1); ?_⟩
        · have h0 : a < 3 := by omega
          refine (wp_loop (by kernel_rfl) (fun (i : Nat) => ⟨[(2, ref 0 0), (3, ref 1 0), (6, int u64 (↑(neededN x gl.l p) : Int)), (7, int i64 (↑a : Int)), (30, int i64 (↑a : Int)), (36, int i64 (↑(List.length x.l) : Int)), (37, .int .i64 (i : Int))], [cells false 2 (nth [encPacks x, encR gl]), cells false 8 fun (a : Nat) => int i64 (p a)], g⟩) (fun (i : Nat) => (i ≤ x.l.length ∧ ∀ k, k < i → badB x gl.l p a k = false)) (fun (i : Nat) => (x.l.length - i)) 0 (to_fr ⟨(Le.refl _), ⟨(Le.refl _), ⟨(Le.refl _), ⟨(Le.refl _), ⟨(Le.refl _), ⟨(Le.refl _), ⟨(Le.of_eq (by kernel_rfl)), trivial⟩⟩⟩⟩⟩⟩⟩ rfl rfl) ?_ (fun i hi => ?_))
          · exact ⟨Nat.zero_le _, fun b hb => absurd hb (by omega)⟩
          · obtain ⟨h5, h6⟩ := hi
            have hn1 := hl i
            have hn2 := hlb i
            refine vcQ [] (lkL [(12, [2, 3, 6, 7, 30, 36, 37, 38]), (13, [2, 3, 6, 7, 8, 30, 36, 37]), (14, [2, 3, 6, 7, 8, 9, 10, 30, 36, 37]), (15, [2, 3, 6, 7, 8, 9, 30, 36, 37, 47]), (16, [2, 3, 6, 7, 8, 9, 30, 36, 37, 50]), (18, [2, 3, 6, 7, 8, 30, 36, 37, 64]), (20, [2, 3, 6, 7, 8, 30, 36, 37, 77]), (21, [2, 3, 6, 7, 30, 36, 37]), (19, [2, 3, 6, 7, 30, 36, 37]), (17, [2, 3, 6, 7, 30, 36, 37]), (22, [2, 3, 6, 7, 30, 36, 37])]) (lkL [(14, [(3, ROrc.pcall (tup 2 (nth [encRel (relOf x p i), AV.bool (p i != -1)]))), (8, ROrc.val (Orc.obj (nth [encR (relOf x p i).needs, encR (relOf x p i).bars])))]), (16, [(7, ROrc.kcall (AV.bool (List.all (relOf x p i).needs.l fun (r : Rng) => inR (p (Int.toNat r.pack)) r)))]), (18, [(7, ROrc.kcall (AV.bool (List.any (relOf x p i).bars.l fun (r : Rng) => inR (p (Int.toNat r.pack)) r)))])]) (fun (Q : AEx → St R.σ → Prop) => (decide ((↑i : Int) < (↑(List.length x.l) : Int)) = true → 2 ≤ 2 ∧ 8 ≤ 8 ∧ (∀ (hp : List AObj) (g : R.σ), true = true ∧ Does Tryd.prog R 99 [encMkt x gl, encPlan p, int i64 (↑i : Int)] hp g (ret (tup 2 (nth [encRel (relOf x p i), AV.bool (p i != -1)]))) hp g) ∧ 2 ≤ 2 ∧ (∀ (c : Nat), c < 2 → nth [encR (relOf x p i).needs, encR (relOf x p i).bars] c = over (nth [fz Fz.nil 0 0 fun (x x_2 : Nat) => any, fz Fz.nil 0 0 fun (x x_2 : Nat) => any]) 0 2 (List.brecOn (motive := fun (x : List AV) => Nat → AV) [encR (relOf x p i).needs, encR (relOf x p i).bars] nth._f) c) ∧ ((!p i != -1) = true → (-9223372036854775808 ≤ (↑i : Int) + 1 ∧ (↑i : Int) + 1 ≤ 9223372036854775807) ∧ Q AEx.normal (St.mk [(2, ref 0 0), (3, ref 1 0), (6, int u64 (↑(neededN x gl.l p) : Int)), (7, int i64 (↑a : Int)), (30, int i64 (↑a : Int)), (36, int i64 (↑(List.length x.l) : Int)), (37, int i64 ((↑i : Int) + 1))] [cells false 2 (nth [encPacks x, encR gl]), cells false 8 fun (a : Nat) => int i64 (p a), cells false 2 (nth [encR (relOf x p i).needs, encR (relOf x p i).bars])] g)) ∧ ((!p i != -1) = false → (((↑a : Int) == 0) = true → 1 ≤ 2) ∧ (((↑a : Int) == 0) = true → 8 ≤ 8) ∧ (((↑a : Int) == 0) = true → true = true ∧ Does Tryd.prog R 39 [encR (relOf x p i).needs, fn 97 1 (nth [encPlan p]) 0 (nth [])] [cells false 2 (nth [encPacks x, encR gl]), cells false 8 fun (a : Nat) => int i64 (p a), cells false 2 (nth [encR (relOf x p i).needs, encR (relOf x p i).bars])] g (ret (AV.bool (List.all (relOf x p i).needs.l fun (r : Rng) => inR (p (Int.toNat r.pack)) r))) [cells false 2 (nth [encPacks x, encR gl]), cells false 8 fun (a : Nat) => int i64 (p a), cells false 2 (nth [encR (relOf x p i).needs, encR (relOf x p i).bars])] g) ∧ ((bif (↑a : Int) == 0 then !List.all (relOf x p i).needs.l fun (r : Rng) => inR (p (Int.toNat r.pack)) r else false) = true → Q (AEx.pan (ifc 93 (agg 2 (nth [int i64 2, int i64 (↑i : Int)])))) (St.mk [(2, ref 0 0), (3, ref 1 0), (6, int u64 (↑(neededN x gl.l p) : Int)), (7, int i64 (↑a : Int)), (30, int i64 (↑a : Int)), (36, int i64 (↑(List.length x.l) : Int)), (37, int i64 (↑i : Int))] [cells false 2 (nth [encPacks x, encR gl]), cells false 8 fun (a : Nat) => int i64 (p a), cells false 2 (nth [encR (relOf x p i).needs, encR (relOf x p i).bars])] g)) ∧ ((bif (↑a : Int) == 0 then !List.all (relOf x p i).needs.l fun (r : Rng) => inR (p (Int.toNat r.pack)) r else false) = false → (((↑a : Int) == 1) = true → 2 ≤ 2) ∧ (((↑a : Int) == 1) = true → 8 ≤ 8) ∧ (((↑a : Int) == 1) = true → true = true ∧ Does Tryd.prog R 24 [encR (relOf x p i).bars, fn 97 1 (nth [encPlan p]) 0 (nth [])] [cells false 2 (nth [encPacks x, encR gl]), cells false 8 fun (a : Nat) => int i64 (p a), cells false 2 (nth [encR (relOf x p i).needs, encR (relOf x p i).bars])] g (ret (AV.bool (List.any (relOf x p i).bars.l fun (r : Rng) => inR (p (Int.toNat r.pack)) r))) [cells false 2 (nth [encPacks x, encR gl]), cells false 8 fun (a : Nat) => int i64 (p a), cells false 2 (nth [encR (relOf x p i).needs, encR (relOf x p i).bars])] g) ∧ ((bif (↑a : Int) == 1 then List.any (relOf x p i).bars.l fun (r : Rng) => inR (p (Int.toNat r.pack)) r else false) = true → Q (AEx.pan (ifc 93 (agg 2 (nth [int i64 3, int i64 (↑i : Int)])))) (St.mk [(2, ref 0 0), (3, ref 1 0), (6, int u64 (↑(neededN x gl.l p) : Int)), (7, int i64 (↑a : Int)), (30, int i64 (↑a : Int)), (36, int i64 (↑(List.length x.l) : Int)), (37, int i64 (↑i : Int))] [cells false 2 (nth [encPacks x, encR gl]), cells false 8 fun (a : Nat) => int i64 (p a), cells false 2 (nth [encR (relOf x p i).needs, encR (relOf x p i).bars])] g)) ∧ ((bif (↑a : Int) == 1 then List.any (relOf x p i).bars.l fun (r : Rng) => inR (p (Int.toNat r.pack)) r else false) = false → (((↑a : Int) == 2) = true → 0 ≤ (↑i : Int)) ∧ ((bif (↑a : Int) == 2 then IntKind.wrap u64 (↑(BitVec.toNat (BitVec.ofInt 64 (Int.fdiv (↑(neededN x gl.l p) : Int) (2 ^ min i 64)) &&& BitVec.ofInt 64 1)) : Int) == 0 else false) = true → Q (AEx.pan (ifc 93 (agg 2 (nth [int i64 4, int i64 (↑i : Int)])))) (St.mk [(2, ref 0 0), (3, ref 1 0), (6, int u64 (↑(neededN x gl.l p) : Int)), (7, int i64 (↑a : Int)), (30, int i64 (↑a : Int)), (36, int i64 (↑(List.length x.l) : Int)), (37, int i64 (↑i : Int))] [cells false 2 (nth [encPacks x, encR gl]), cells false 8 fun (a : Nat) => int i64 (p a), cells false 2 (nth [encR (relOf x p i).needs, encR (relOf x p i).bars])] g)) ∧ ((bif (↑a : Int) == 2 then IntKind.wrap u64 (↑(BitVec.toNat (BitVec.ofInt 64 (Int.fdiv (↑(neededN x gl.l p) : Int) (2 ^ min i 64)) &&& BitVec.ofInt 64 1)) : Int) == 0 else false) = false → (-9223372036854775808 ≤ (↑i : Int) + 1 ∧ (↑i : Int) + 1 ≤ 9223372036854775807) ∧ Q AEx.normal (St.mk [(2, ref 0 0), (3, ref 1 0), (6, int u64 (↑(neededN x gl.l p) : Int)), (7, int i64 (↑a : Int)), (30, int i64 (↑a : Int)), (36, int i64 (↑(List.length x.l) : Int)), (37, int i64 ((↑i : Int) + 1))] [cells false 2 (nth [encPacks x, encR gl]), cells false 8 fun (a : Nat) => int i64 (p a), cells false 2 (nth [encR (relOf x p i).needs, encR (relOf x p i).bars])] g)))))) ∧ (decide ((↑i : Int) < (↑(List.length x.l) : Int)) = false → Q (AEx.exit 4) (St.mk [(2, ref 0 0), (3, ref 1 0), (6, int u64 (↑(neededN x gl.l p) : Int)), (7, int i64 (↑a : Int)), (30, int i64 (↑a : Int)), (36, int i64 (↑(List.length x.l) : Int)), (37, int i64 (↑i : Int)), (38, AV.bool (decide ((↑i : Int) < (↑(List.length x.l) : Int))))] [cells false 2 (nth [encPacks x, encR gl]), cells false 8 fun (a : Nat) => int i64 (p a)] g))) (fun _ => by kernel_rfl) ⟨fun c1 => have c1 : (↑i : Int) < (↑(List.length x.l) : Int) := (of_decide_eq_true c1); ⟨(by omega), ⟨(by omega), ⟨(fun _ _ => ⟨rfl, (Go.Avm.Pack.c_release _ _ _ _ _ _ _ (by omega) (by simp at * <;> omega) (by omega))⟩), ⟨(by omega), ⟨(fun c hc => match c, hc with | 0, _ => (by kernel_rfl) | 1, _ => (by kernel_rfl) ), ⟨fun c2 => have c2 : p i = -1 := (bne_eq_false_iff_eq.mp ((Bool.not_eq_true' _).mp c2)); ⟨(by omega), ?_⟩, fun c2 => have c2 : ¬p i = -1 := (bne_iff_ne.mp ((Bool.not_eq_false' _).mp c2)); ⟨(by omega), ⟨(by omega), ⟨(fun hgd => ⟨rfl, (Go.Avm.Pack.c_everyF_PackRange _ _ _ _ _ _ _ _ _ _ (by omega) (by kernel_rfl) (fun r _ => (Go.Avm.Pack.c_meets _ _ _ _ _ ?_ ?_)))⟩), ⟨fun c3 => have c3 : (↑a : Int) = 0 ∧ (List.all (relOf x p i).needs.l fun (r : Rng) => inR (p (Int.toNat r.pack)) r) = false := ⟨(beq_iff_eq.mp (cA_t c3).1), ((Bool.not_eq_true' _).mp (cA_t c3).2)⟩; ?_, fun c3 => have c3 : ¬(↑a : Int) = 0 ∨ (List.all (relOf x p i).needs.l fun (r : Rng) => inR (p (Int.toNat r.pack)) r) = true := ((cA_f c3).imp (fun h => (beq_eq_false_iff_ne.mp h)) (fun h => ((Bool.not_eq_false' _).mp h))); ⟨(by omega), ⟨(by omega), ⟨(fun hgd => ⟨rfl, (Go.Avm.Pack.c_ContainsFuncF_PackRange _ _ _ _ _ _ _ _ _ _ (by omega) (by kernel_rfl) (fun r _ => (Go.Avm.Pack.c_meets _ _ _ _ _ ?_ ?_)))⟩), ⟨fun c4 => have c4 : (↑a : Int) = 1 ∧ (List.any (relOf x p i).bars.l fun (r : Rng) => inR (p (Int.toNat r.pack)) r) = true := ⟨(beq_iff_eq.mp (cA_t c4).1), (cA_t c4).2⟩; ?_, fun c4 => have c4 : ¬(↑a : Int) = 1 ∨ (List.any (relOf x p i).bars.l fun (r : Rng) => inR (p (Int.toNat r.pack)) r) = false := ((cA_f c4).imp (fun h => (beq_eq_false_iff_ne.mp h)) (fun h => h)); ⟨(by omega), ⟨fun c5 => have c5 : (↑a : Int) = 2 ∧ IntKind.wrap u64 (↑(BitVec.toNat (BitVec.ofInt 64 (Int.fdiv (↑(neededN x gl.l p) : Int) (2 ^ min i 64)) &&& BitVec.ofInt 64 1)) : Int) = 0 := ⟨(beq_iff_eq.mp (cA_t c5).1), (beq_iff_eq.mp (cA_t c5).2)⟩; ?_, fun c5 => have c5 : ¬(↑a : Int) = 2 ∨ ¬IntKind.wrap u64 (↑(BitVec.toNat (BitVec.ofInt 64 (Int.fdiv (↑(neededN x gl.l p) : Int) (2 ^ min i 64)) &&& BitVec.ofInt 64 1)) : Int) = 0 := ((cA_f c5).imp (fun h => (beq_eq_false_iff_ne.mp h)) (fun h => (beq_eq_false_iff_ne.mp h))); ⟨(by omega), ?_⟩⟩⟩⟩⟩⟩⟩⟩⟩⟩⟩⟩⟩⟩⟩⟩⟩, fun c1 => have c1 : ¬(↑i : Int) < (↑(List.length x.l) : Int) := (of_decide_eq_false c1); ?_⟩
            · refine (next_round (i + 1) (to_sel [0, 1] 3 rfl rfl rfl rfl rfl ⟨(Le.refl _), ⟨(Le.refl _), ⟨(Le.refl _), ⟨(Le.refl _), ⟨(Le.refl _), ⟨(Le.refl _), ⟨(Le.refl _), trivial⟩⟩⟩⟩⟩⟩⟩ ⟨⟨rfl, Nat.le_refl _, fun j hj => match j, hj with | 0, _ => (Le.refl _) | 1, _ => (Le.refl _) ⟩, ⟨⟨rfl, Nat.le_refl _, fun j hj => match j, hj with | 0, _ => (Le.refl _) | 1, _ => (Le.refl _) | 2, _ => (Le.refl _) | 3, _ => (Le.refl _) | 4, _ => (Le.refl _) | 5, _ => (Le.refl _) | 6, _ => (Le.refl _) | 7, _ => (Le.refl _) ⟩, trivial⟩⟩) ?_ ?_)
              · refine ⟨by omega, fun k hk => ?_⟩
                rcases Nat.lt_or_ge k i with h | h
                · exact h6 k h
                · have : k = i := by omega
                  subst this
                  unfold badB
                  rw [c2]; rfl
              · omega
            · have := hw i (by omega) r (by assumption)
              omega
            · have := hw i (by omega) r (by assumption)
              omega
            · obtain ⟨e0, e1⟩ := c3
              have e0 : a = 0 := by omega
              subst e0
              have hbad : badB x gl.l p 0 i = true := by
                unfold badB
                rw [if_pos rfl, show (p i != -1) = true by simpa using c2, Bool.true_and]
                have e2 : (relOf x p i).needs.l.all (metB p) = false := e1
                rw [e2]; rfl
              rw [look_some hG h4 h6 (by omega) hbad h0]
              refine (panQ_take (P := Tryd.prog) (rs := []) 0 (by omega) ⟨⟨trivial, trivial⟩, trivial⟩ trivial (by kernel_rfl) rfl (Le.of_eq (by kernel_rfl)))
            · have := hwb i (by omega) r (by assumption)
              omega
            · have := hwb i (by omega) r (by assumption)
              omega
            · obtain ⟨e0, e1⟩ := c4
              have e0 : a = 1 := by omega
              subst e0
              have hbad : badB x gl.l p 1 i = true := by
                unfold badB
                rw [if_neg (by decide), if_pos rfl, show (p i != -1) = true by simpa using c2, Bool.true_and]
                exact e1
              rw [look_some hG h4 h6 (by omega) hbad h0]
              refine (panQ_take (P := Tryd.prog) (rs := []) 0 (by omega) ⟨⟨trivial, trivial⟩, trivial⟩ trivial (by kernel_rfl) rfl (Le.of_eq (by kernel_rfl)))
            · obtain ⟨e0, e1⟩ := c5
              have e0 : a = 2 := by omega
              subst e0
              rw [bit_test _ i (by omega) (by omega)] at e1
              have hbad : badB x gl.l p 2 i = true := by
                unfold badB
                rw [if_neg (by decide), if_neg (by decide), show (p i != -1) = true by simpa using c2, Bool.true_and]
                cases e : (neededN x gl.l p).testBit i with
                | false => rfl
                | true => rw [e] at e1; simp at e1
              rw [look_some hG h4 h6 (by omega) hbad h0]
              refine (panQ_take (P := Tryd.prog) (rs := []) 0 (by omega) ⟨⟨trivial, trivial⟩, trivial⟩ trivial (by kernel_rfl) rfl (Le.of_eq (by kernel_rfl)))
            · refine (next_round (i + 1) (to_sel [0, 1] 3 rfl rfl rfl rfl rfl ⟨(Le.refl _), ⟨(Le.refl _), ⟨(Le.refl _), ⟨(Le.refl _), ⟨(Le.refl _), ⟨(Le.refl _), ⟨(Le.refl _), trivial⟩⟩⟩⟩⟩⟩⟩ ⟨⟨rfl, Nat.le_refl _, fun j hj => match j, hj with | 0, _ => (Le.refl _) | 1, _ => (Le.refl _) ⟩, ⟨⟨rfl, Nat.le_refl _, fun j hj => match j, hj with | 0, _ => (Le.refl _) | 1, _ => (Le.refl _) | 2, _ => (Le.refl _) | 3, _ => (Le.refl _) | 4, _ => (Le.refl _) | 5, _ => (Le.refl _) | 6, _ => (Le.refl _) | 7, _ => (Le.refl _) ⟩, trivial⟩⟩) ?_ ?_)
              · refine ⟨by omega, fun k hk => ?_⟩
                rcases Nat.lt_or_ge k i with h | h
                · exact h6 k h
                · have : k = i := by omega
                  subst this
                  unfold badB
                  rw [show (p k != -1) = true by simpa using c2, Bool.true_and]
                  rcases (show a = 0 ∨ a = 1 ∨ a = 2 by omega) with e | e | e
                  · subst e
                    rw [if_pos rfl]
                    rcases c3 with h | h
                    · exact absurd rfl h
                    · have e2 : (relOf x p k).needs.l.all (metB p) = true := h
                      rw [e2]; rfl
                  · subst e
                    rw [if_neg (by decide), if_pos rfl]
                    rcases c4 with h | h
                    · exact absurd rfl h
                    · exact h
                  · subst e
                    rw [if_neg (by decide), if_neg (by decide)]
                    rcases c5 with h | h
                    · exact absurd rfl h
                    · rw [bit_test _ k (by omega) (by omega)] at h
                      cases e : (neededN x gl.l p).testBit k with
                      | true => rfl
                      | false => rw [e] at h; exact absurd rfl h
              · omega
            · refine ⟨_, To.refl _, vcQ [] (lkL [(23, [2, 3, 6, 30])]) (fun _ => []) (fun (Q : AEx → St R.σ → Prop) => (-9223372036854775808 ≤ (↑a : Int) + 1 ∧ (↑a : Int) + 1 ≤ 9223372036854775807) ∧ Q AEx.normal (St.mk [(2, ref 0 0), (3, ref 1 0), (6, int u64 (↑(neededN x gl.l p) : Int)), (30, int i64 ((↑a : Int) + 1))] [cells false 2 (nth [encPacks x, encR gl]), cells false 8 fun (a : Nat) => int i64 (p a)] g)) (fun _ => by kernel_rfl) ⟨(by omega), ?_⟩⟩
              refine (next_round (a + 1) (to_fr ⟨(Le.refl _), ⟨(Le.refl _), ⟨(Le.refl _), ⟨(Le.of_eq (by kernel_rfl)), trivial⟩⟩⟩⟩ rfl rfl) ?_ ?_)
              · refine ⟨by omega, fun b hb k hk => ?_⟩
                rcases Nat.lt_or_ge b a with h | h
                · exact h4 b h k hk
                · have : b = a := by omega
                  subst this
                  exact h6 k (by omega)
              · omega
        · rw [look_none hG (fun b hb => h4 b (by omega))]
          refine ⟨_, To.refl _, (retQ_le (retQ_drop _ _ rfl trivial trivial rfl) (Le.refl _))⟩
theorem c_look_t (R : Res) (x : Ix) (gl : KL Rng) (p : Nat → Int) (hp : List AObj) (g : R.σ) (hn : (lookR x gl.l p).isNone = true) (h8 : x.l.length ≤ 8) (h : inP x p) (hw : wfN x p) (hwb : wfB x p) (hl : smallN x p) (hlb : smallB' x p) (hg : gl.l.length < 1000000) (hgl : ∀ r ∈ gl.l, 0 ≤ r.pack ∧ r.pack < x.l.length) : Does Tryd.prog R 83 [encMkt x gl, encPlan p] hp g (.ret (.tup 0 (nth []))) hp g := by
  have := look_all R x gl p hp g h8 h hw hwb hl hlb hg hgl
  cases e : lookR x gl.l p with
  | none => rw [e] at this; exact this
  | some a => rw [e] at hn; cases hn
theorem c_look_p (R : Res) (x : Ix) (gl : KL Rng) (p : Nat → Int) (hp : List AObj) (g : R.σ) (f i : Int) (hn : lookR x gl.l p = some (f, i)) (h8 : x.l.length ≤ 8) (h : inP x p) (hw : wfN x p) (hwb : wfB x p) (hl : smallN x p) (hlb : smallB' x p) (hg : gl.l.length < 1000000) (hgl : ∀ r ∈ gl.l, 0 ≤ r.pack ∧ r.pack < x.l.length) : Does Tryd.prog R 83 [encMkt x gl, encPlan p] hp g (.pan (.ifc 93 (.agg 2 (nth [.int .i64 f, .int .i64 i])))) hp g := by
  have := look_all R x gl p hp g h8 h hw hwb hl hlb hg hgl
  rw [hn] at this
  exact this
end Go.Avm.Pack
namespace Go.Avm.Pack
open Go Go.Avm Go.Proofs
open Go.IntKind (i64 u64)
open Go.Avm.AV (int bool any fz fp sl ow ref fn ifc val agg tup)
open Go.Avm.AObj (cells dead)
open Go.Avm.Oc (ret)
set_option maxRecDepth 4000
def hpT (x : Ix) (gl : KL Rng) (p : Nat → Int) (f i : Int) : List AObj := [.cells false 2 (nth [encPacks x, encR gl]), .cells false 8 (fun a => .int .i64 (p a)), .cells false 2 (nth [.int .i64 f, .int .i64 i])]
theorem d_fault1 (R : Res) (x : Ix) (gl : KL Rng) (p : Nat → Int) (f i : Int) (g : R.σ) : DoesD Tryd.prog R 82 [.ref 2 0] (hpT x gl p 0 0) g (some (.ifc 93 (.agg 2 (nth [.int .i64 f, .int .i64 i])))) (hpT x gl p f i) g := by
  refine recover_wp (nt := ntOf Tryd.prog 82) (rs := resOf Tryd.prog 82) (k0 := 3) 4 1 (by kernel_rfl) (by kernel_rfl) (by kernel_rfl) rfl (by kernel_rfl) (by decide) (by decide) (by decide) (by decide) (by decide) ?_
  refine vcQ [] (lkL [(1, [0, 1, 6]), (2, [0, 1, 2, 3]), (3, [0, 1, 2, 13]), (4, [0, 2])]) (lkL [(2, [(6, ROrc.val (Orc.obj (nth [int i64 f, int i64 i])))]), (5, [(1, ROrc.val (Orc.obj (nth [int i64 f, int i64 i])))])]) (fun (Q : AEx → St R.σ → Prop) => (true = true → 2 ≤ 2 ∧ (∀ (c : Nat), c < 2 → nth [int i64 f, int i64 i] c = over (nth [int i64 0, int i64 0]) 0 2 (List.brecOn (motive := fun (x : List AV) => Nat → AV) [int i64 f, int i64 i] nth._f) c) ∧ (false = true → Q (AEx.pan (ifc 93 (agg 2 (nth [int i64 f, int i64 i])))) (St.mk [(0, ref 2 0), (2, ref 3 0)] [cells false 2 (nth [encPacks x, encR gl]), cells false 8 fun (a : Nat) => int i64 (p a), cells false 2 (nth [int i64 0, int i64 0]), cells false 2 (nth [int i64 f, int i64 i])] g)) ∧ (false = false → 2 ≤ 2 ∧ 2 ≤ 2 ∧ (∀ (c : Nat), c < 2 → nth [int i64 f, int i64 i] c = over (nth [int i64 0, int i64 0]) 0 2 (List.brecOn (motive := fun (x : List AV) => Nat → AV) [int i64 f, int i64 i] nth._f) c) ∧ Q AEx.normal (St.mk [] [cells false 2 (nth [encPacks x, encR gl]), cells false 8 fun (a : Nat) => int i64 (p a), cells false 2 (nth [int i64 f, int i64 i]), cells false 2 (nth [int i64 f, int i64 i])] g))) ∧ (true = false → Q AEx.normal (St.mk [(0, ref 2 0), (1, ifc 93 (agg 2 (nth [int i64 f, int i64 i]))), (6, AV.bool true)] [cells false 2 (nth [encPacks x, encR gl]), cells false 8 fun (a : Nat) => int i64 (p a), cells false 2 (nth [int i64 0, int i64 0])] g))) (fun _ => by kernel_rfl) ⟨fun _ => ⟨(by omega), ⟨(fun c hc => match c, hc with | 0, _ => (by kernel_rfl) | 1, _ => (by kernel_rfl) ), ⟨fun h => (nomatch h), fun _ => ⟨(by omega), ⟨(by omega), ⟨(fun c hc => match c, hc with | 0, _ => (by kernel_rfl) | 1, _ => (by kernel_rfl) ), ?_⟩⟩⟩⟩⟩⟩, fun h => (nomatch h)⟩
  refine (retQ_le (retQ_take' 3 _ _ rfl trivial (by omega) trivial ⟨(fun j hj => match j, hj with | 0, _ => trivial | 1, _ => trivial ), ⟨(fun j hj => match j, hj with | 0, _ => trivial | 1, _ => trivial | 2, _ => trivial | 3, _ => trivial | 4, _ => trivial | 5, _ => trivial | 6, _ => trivial | 7, _ => trivial ), ⟨(fun j hj => match j, hj with | 0, _ => trivial | 1, _ => trivial ), trivial⟩⟩⟩ (by kernel_rfl) rfl rfl) (Le.refl _))
theorem d_fault1n (R : Res) (x : Ix) (gl : KL Rng) (p : Nat → Int) (g : R.σ) : DoesD Tryd.prog R 82 [.ref 2 0] (hpT x gl p 0 0) g none (hpT x gl p 0 0) g := by
  refine recover_wp (nt := ntOf Tryd.prog 82) (rs := resOf Tryd.prog 82) (k0 := 3) 4 1 (by kernel_rfl) (by kernel_rfl) (by kernel_rfl) rfl (by kernel_rfl) (by decide) (by decide) (by decide) (by decide) (by decide) ?_
  refine vcQ [] (lkL [(1, [0, 1, 6]), (2, [0, 1, 2, 3]), (3, [0, 1, 2, 13]), (4, [0, 2])]) (lkL [(1, [(1, ROrc.own (AV.bool false) (hpT x gl p 0 0) g)]), (2, [(6, ROrc.val (Orc.obj (nth [int i64 0, int i64 0])))]), (5, [(1, ROrc.val (Orc.obj (nth [int i64 0, int i64 0])))])]) (fun (Q : AEx → St R.σ → Prop) => OpOk Tryd.prog R (Oper.mk (some 6) (Op.binOp BinOp.neq 20 (Operand.tmp 5) (Operand.const Value.nilIface) 20) 4 "pack.go:149" #[Edge.mk 0 Ground.data] none) (evO [Row.mk (some 5) none AV.nili false (some []) []] [(1, AV.nili), (0, ref 2 0)] []) [cells false 2 (nth [encPacks x, encR gl]), cells false 8 fun (a : Nat) => int i64 (p a), cells false 2 (nth [int i64 0, int i64 0])] g (AV.bool false) [cells false 2 (nth [encPacks x, encR gl]), cells false 8 fun (a : Nat) => int i64 (p a), cells false 2 (nth [int i64 0, int i64 0])] g ∧ (false = true → 2 ≤ 2 ∧ (∀ (c : Nat), c < 2 → nth [int i64 0, int i64 0] c = over (nth [int i64 0, int i64 0]) 0 2 (List.brecOn (motive := fun (x : List AV) => Nat → AV) [int i64 0, int i64 0] nth._f) c) ∧ (true = true → False) ∧ (true = false → 2 ≤ 2 ∧ 2 ≤ 2 ∧ (∀ (c : Nat), c < 2 → nth [int i64 0, int i64 0] c = over (nth [int i64 0, int i64 0]) 0 2 (List.brecOn (motive := fun (x : List AV) => Nat → AV) [int i64 0, int i64 0] nth._f) c) ∧ Q AEx.normal (St.mk [] [cells false 2 (nth [encPacks x, encR gl]), cells false 8 fun (a : Nat) => int i64 (p a), cells false 2 (nth [int i64 0, int i64 0]), cells false 2 (nth [int i64 0, int i64 0])] g))) ∧ (false = false → Q AEx.normal (St.mk [(0, ref 2 0), (1, AV.nili), (6, AV.bool false)] [cells false 2 (nth [encPacks x, encR gl]), cells false 8 fun (a : Nat) => int i64 (p a), cells false 2 (nth [int i64 0, int i64 0])] g))) (fun _ => by kernel_rfl) ⟨?_, ⟨fun h => (nomatch h), fun _ => ?_⟩⟩
  · exact opOk_neq_nil (ms := #[]) rfl rfl rfl (by kernel_rfl)
  · refine (retQ_le (retQ_same' _ _ rfl trivial rfl rfl rfl) (Le.refl _))
def faultOf (x : Ix) (gl : List Rng) (p : Nat → Int) : Int × Int := (lookR x gl p).getD (0, 0)
theorem c_fault (R : Res) (x : Ix) (gl : KL Rng) (p : Nat → Int) (hp : List AObj) (g : R.σ) (h8 : x.l.length ≤ 8) (h : inP x p) (hw : wfN x p) (hwb : wfB x p) (hl : smallN x p) (hlb : smallB' x p) (hg : gl.l.length < 1000000) (hgl : ∀ r ∈ gl.l, 0 ≤ r.pack ∧ r.pack < x.l.length) : Does Tryd.prog R 49 [encMkt x gl, encPlan p] hp g (.ret (.agg 2 (nth [.int .i64 (faultOf x gl.l p).1, .int .i64 (faultOf x gl.l p).2]))) hp g := by
  refine does_any' (fun R g => ?_) (by exact ⟨⟨⟨trivial, trivial⟩, trivial⟩, ⟨⟨⟨⟨⟨⟨⟨⟨⟨trivial, trivial⟩, trivial⟩, trivial⟩, trivial⟩, trivial⟩, trivial⟩, trivial⟩, trivial⟩, trivial⟩⟩) R hp g
  refine defer_wp (K := 82) (nt := ntOf Tryd.prog 49) (rs := resOf Tryd.prog 49) (k0 := 0) 5 [4] (by kernel_rfl) (by kernel_rfl) (by kernel_rfl) rfl (by kernel_rfl) (by kernel_rfl) (by decide) (by decide) ?_
  refine vcQ [] (lkL [(0, [2, 3, 4])]) (fun _ => []) (fun (Q : AEx → St R.σ → Prop) => Q AEx.normal (St.mk [(2, ref 0 0), (3, ref 1 0), (4, ref 2 0)] [cells false 2 (nth [encPacks x, encR gl]), cells false 8 fun (a : Nat) => int i64 (p a), cells false 2 (nth [int i64 0, int i64 0])] g)) (fun _ => by kernel_rfl) (?_)
  refine defA_wp 3 [.ref 2 0] rfl rfl rfl ?_
  cases e : lookR x gl.l p with
  | none =>
    have e' : (lookR x gl.l p).isNone = true := by rw [e]; rfl
    have hf : faultOf x gl.l p = (0, 0) := by unfold faultOf; rw [e]; rfl
    rw [hf]
    refine vcQ [] (lkL [(2, [4]), (3, [4])]) (lkL [(2, [(2, ROrc.pcall (tup 0 (nth [])))]), (3, [(1, ROrc.val (Orc.obj (nth [int i64 0, int i64 0])))])]) (fun (Q : AEx → St R.σ → Prop) => 2 ≤ 2 ∧ 8 ≤ 8 ∧ (∀ (hp : List AObj) (g : R.σ), true = true ∧ Does Tryd.prog R 83 [encMkt x gl, encPlan p] hp g (ret (tup 0 (nth []))) hp g) ∧ 2 ≤ 2 ∧ (∀ (c : Nat), c < 2 → nth [int i64 0, int i64 0] c = over (nth [int i64 0, int i64 0]) 0 2 (List.brecOn (motive := fun (x : List AV) => Nat → AV) [int i64 0, int i64 0] nth._f) c) ∧ Q AEx.ret (St.mk [(4, ref 2 0)] [cells false 2 (nth [encPacks x, encR gl]), cells false 8 fun (a : Nat) => int i64 (p a), cells false 2 (nth [int i64 0, int i64 0])] g)) (fun _ => by kernel_rfl) ⟨(by omega), ⟨(by omega), ⟨(fun _ _ => ⟨rfl, (Go.Avm.Pack.c_look_t _ _ _ _ _ _ (by omega) (by omega) (by omega) (by omega) (by omega) (by omega) (by omega) (by omega) (by omega))⟩), ⟨(by omega), ⟨(fun c hc => match c, hc with | 0, _ => (by kernel_rfl) | 1, _ => (by kernel_rfl) ), ?_⟩⟩⟩⟩⟩
    refine ⟨_, _, d_fault1n R x gl p g, ?_⟩
    refine (retQ_le (retQ_drop (agg 2 (nth [int i64 0, int i64 0])) ([0 + (TyI.mk ((fun (x : TypeInfo) => x.desc) Tryd.prog.types[92]) Tryd.prog.types[93].size Tryd.prog.types[93].bytes (cellA (ofVal (Value.agg #[Value.int i64 0, Value.int i64 0]))) (isAggD ((fun (x : TypeInfo) => x.desc) Tryd.prog.types[92])) (flatTy Tryd.prog 93)).size ≤ 2]) (by kernel_rfl) (by exact ⟨(by decide), trivial⟩) ⟨⟨trivial, trivial⟩, trivial⟩ rfl) (Le.refl _))
  | some a =>
    obtain ⟨f, i⟩ := a
    have hf : faultOf x gl.l p = (f, i) := by unfold faultOf; rw [e]; rfl
    rw [hf]
    refine vcQ [] (lkL [(2, [4])]) (lkL [(2, [(2, ROrc.cpan (ifc 93 (agg 2 (nth [int i64 f, int i64 i]))) [cells false 2 (nth [encPacks x, encR gl]), cells false 8 fun (a : Nat) => int i64 (p a), cells false 2 (nth [int i64 0, int i64 0])] g)])]) (fun (Q : AEx → St R.σ → Prop) => 2 ≤ 2 ∧ 8 ≤ 8 ∧ (true = true ∧ Does Tryd.prog R 83 [encMkt x gl, encPlan p] [cells false 2 (nth [encPacks x, encR gl]), cells false 8 fun (a : Nat) => int i64 (p a), cells false 2 (nth [int i64 0, int i64 0])] g (Oc.pan (ifc 93 (agg 2 (nth [int i64 f, int i64 i])))) [cells false 2 (nth [encPacks x, encR gl]), cells false 8 fun (a : Nat) => int i64 (p a), cells false 2 (nth [int i64 0, int i64 0])] g) ∧ Q (AEx.pan (ifc 93 (agg 2 (nth [int i64 f, int i64 i])))) (St.mk [(4, ref 2 0)] [cells false 2 (nth [encPacks x, encR gl]), cells false 8 fun (a : Nat) => int i64 (p a), cells false 2 (nth [int i64 0, int i64 0])] g)) (fun _ => by kernel_rfl) ⟨(by omega), ⟨(by omega), ⟨⟨rfl, (Go.Avm.Pack.c_look_p _ _ _ _ _ _ _ _ e (by omega) (by omega) (by omega) (by omega) (by omega) (by omega) (by omega) (by omega))⟩, ?_⟩⟩⟩
    refine ⟨_, _, d_fault1 R x gl p f i g, ?_⟩
    refine (retQ_le (retQ_drop (agg 2 (nth [int i64 f, int i64 i])) ([0 + (TyI.mk ((fun (x : TypeInfo) => x.desc) Tryd.prog.types[92]) Tryd.prog.types[93].size Tryd.prog.types[93].bytes (cellA (ofVal (Value.agg #[Value.int i64 0, Value.int i64 0]))) (isAggD ((fun (x : TypeInfo) => x.desc) Tryd.prog.types[92])) (flatTy Tryd.prog 93)).size ≤ 2]) (by kernel_rfl) (by exact ⟨(by decide), trivial⟩) ⟨⟨trivial, trivial⟩, trivial⟩ rfl) (Le.refl _))
end Go.Avm.Pack
namespace Go.Avm.Pack
open Go Go.Avm Go.Proofs
open Go.IntKind (i64 u64)
open Go.Avm.AV (int bool any fz fp sl ow ref fn ifc val agg tup)
open Go.Avm.AObj (cells dead)
open Go.Avm.Oc (ret)
set_option maxRecDepth 4000
theorem formed_rel {x : Ix} (h : formedB x = true) {i k : Nat} (hi : i < x.l.length) (hk : k < (x.l.getD i default).l.length) : relB x i ((x.l.getD i default).l.getD k default) = true := by
  unfold formedB at h
  simp only [Bool.and_eq_true] at h
  have h2 : ∀ j, j ∈ List.range x.l.length → relsB x j (x.l.getD j default).l = true := List.all_eq_true.1 h.2
  have h3 := h2 i (by simpa using hi)
  unfold relsB at h3
  simp only [Bool.and_eq_true] at h3
  exact List.all_eq_true.1 h3.2 _ (getD_mem _ _ hk)
theorem formed_le {x : Ix} (h : formedB x = true) : 1 ≤ x.l.length ∧ x.l.length ≤ 8 := by
  unfold formedB at h
  simp only [Bool.and_eq_true, decide_eq_true_eq] at h
  exact h.1
theorem ranged_pack {x : Ix} {r : Rng} (h : rangedB x r = true) : 0 ≤ r.pack ∧ r.pack < x.l.length := by
  unfold rangedB at h
  have := of_decide_eq_true h
  exact ⟨this.1, this.2.1⟩
theorem relOf_cases {x : Ix} (h : formedB x = true) {p : Nat → Int} (hp : inP x p) {i : Nat} (hi : i < x.l.length) : relOf x p i = noRel ∨ relB x i (relOf x p i) = true := by
  unfold relOf
  split
  · exact .inl rfl
  · rename_i hne
    have := hp i hi
    exact .inr (formed_rel h hi (by omega))
theorem formed_wfN {x : Ix} (h : formedB x = true) {p : Nat → Int} (hp : inP x p) : wfN x p := by
  intro i hi r hr
  rcases relOf_cases h hp hi with e | e
  · rw [e] at hr; cases hr
  · unfold relB at e
    simp only [Bool.and_eq_true] at e
    have := List.all_eq_true.1 e.1.2 r hr
    unfold otherB at this
    simp only [Bool.and_eq_true] at this
    exact ranged_pack this.1
theorem formed_wfB {x : Ix} (h : formedB x = true) {p : Nat → Int} (hp : inP x p) : wfB x p := by
  intro i hi r hr
  rcases relOf_cases h hp hi with e | e
  · rw [e] at hr; cases hr
  · unfold relB at e
    simp only [Bool.and_eq_true] at e
    have := List.all_eq_true.1 e.2 r hr
    unfold otherB at this
    simp only [Bool.and_eq_true] at this
    exact ranged_pack this.1
theorem relOf_beyond {x : Ix} {p : Nat → Int} {i : Nat} (hi : x.l.length ≤ i) : relOf x p i = noRel ∨ relOf x p i = default := by
  unfold relOf
  split
  · exact .inl rfl
  · right
    have : x.l.getD i default = default := by rw [List.getD_eq_getElem?_getD, List.getElem?_eq_none hi]; rfl
    rw [this]
    rfl
theorem formed_smallN {x : Ix} (h : formedB x = true) {p : Nat → Int} (hp : inP x p) : smallN x p := by
  intro i
  rcases Nat.lt_or_ge i x.l.length with hi | hi
  · rcases relOf_cases h hp hi with e | e
    · rw [e]; decide
    · unfold relB at e
      simp only [Bool.and_eq_true, decide_eq_true_eq] at e
      omega
  · rcases relOf_beyond (p := p) hi with e | e <;> rw [e] <;> decide
theorem formed_smallB {x : Ix} (h : formedB x = true) {p : Nat → Int} (hp : inP x p) : smallB' x p := by
  intro i
  rcases Nat.lt_or_ge i x.l.length with hi | hi
  · rcases relOf_cases h hp hi with e | e
    · rw [e]; decide
    · unfold relB at e
      simp only [Bool.and_eq_true, decide_eq_true_eq] at e
      omega
  · rcases relOf_beyond (p := p) hi with e | e <;> rw [e] <;> decide
theorem planned_inP {x : Ix} {l : List Int} (h : plannedB x l = true) : inP x (planOf l x.l.length) := by
  intro i hi
  have := (plannedB_iff.1 h).2 i hi
  unfold planOf
  rw [if_pos hi]
  exact this
def faultR (x : Ix) (gl : List Rng) (l : List Int) : Int × Int × Int :=
  if (checkB x gl && plannedB x l) = true then ((faultOf x gl (planOf l x.l.length)).1, (faultOf x gl (planOf l x.l.length)).2, 0) else (0, 0, 2)
theorem c_Fault (R : Res) (x : Ix) (gl : KL Rng) (l : KL Int) (hp : List AObj) (g : R.σ) (hs : small x) (hg : gl.l.length < 1000000) : Does Tryd.prog R 15 [encIx x, encR gl, encI l] hp g (.ret (.tup 3 (nth [.int .i64 (faultR x gl.l l.l).1, .int .i64 (faultR x gl.l l.l).2.1, .int .i64 (faultR x gl.l l.l).2.2]))) hp g := by
  refine does_any' (fun R g => ?_) (by exact ⟨⟨trivial, trivial⟩, ⟨trivial, ⟨trivial, trivial⟩⟩⟩) R hp g
  refine spec_of_wp (nt := 35) (rs := [.tmp 6, .tmp 7, .tmp 8]) (k0 := 0) (by kernel_rfl) (by kernel_rfl) (by kernel_rfl) rfl ?_
  cases hc : checkB x gl.l with
  | false =>
    have hf : faultR x gl.l l.l = (0, 0, 2) := by unfold faultR; rw [hc]; rfl
    rw [hf]
    refine vcQ [] (lkL [(0, [1, 2, 3]), (1, [1, 2, 3, 9]), (2, [2, 9, 19]), (3, [6, 7, 8]), (4, [9, 10, 11])]) (lkL [(1, [(4, ROrc.val (Orc.obj (nth [encPacks x, encR gl])))]), (2, [(2, ROrc.pcall (int i64 2))])]) (fun (Q : AEx → St R.σ → Prop) => 1 ≤ 1 ∧ 2 ≤ 2 ∧ (∀ (c : Nat), c < 2 → nth [encPacks x, encR gl] c = over (nth [fz Fz.nil 0 0 fun (x x_1 : Nat) => any, fz Fz.nil 0 0 fun (x x_1 : Nat) => any]) 0 2 (List.brecOn (motive := fun (x : List AV) => Nat → AV) [encPacks x, encR gl] nth._f) c) ∧ 1 ≤ 1 ∧ (∀ (hp : List AObj) (g : R.σ), true = true ∧ Does Tryd.prog R 47 [encIx x, encR gl] hp g (ret (int i64 2)) hp g) ∧ (true = true → Q AEx.ret (St.mk [(6, int i64 0), (7, int i64 0), (8, int i64 2)] [cells false 1 (nth [encPacks x]), cells false 2 (nth [encPacks x, encR gl])] g)) ∧ (true = false → False)) (fun _ => by kernel_rfl) ⟨(by omega), ⟨(by omega), ⟨(fun c hc => match c, hc with | 0, _ => (by kernel_rfl) | 1, _ => (by kernel_rfl) ), ⟨(by omega), ⟨(fun _ _ => ⟨rfl, (Go.Avm.Pack.c_Check_f _ _ _ _ _ (by omega) (by omega) (by omega))⟩), ⟨fun _ => ?_, fun h => (nomatch h)⟩⟩⟩⟩⟩⟩
    refine (retQ_le (retQ_drop _ _ rfl trivial ⟨⟨⟨trivial, trivial⟩, trivial⟩, trivial⟩ rfl) (Le.refl _))
  | true =>
    have hc' := hc
    unfold checkB at hc'
    simp only [Bool.and_eq_true] at hc'
    have hfo := hc'.1
    have h8 := (formed_le hfo).2
    have hgl : ∀ r ∈ gl.l, 0 ≤ r.pack ∧ r.pack < x.l.length := fun r hr => ranged_pack (List.all_eq_true.1 hc'.2.2 r hr)
    cases hpl : plannedB x l.l with
    | false =>
      have hf : faultR x gl.l l.l = (0, 0, 2) := by unfold faultR; rw [hc, hpl]; rfl
      rw [hf]
      refine vcQ [] (lkL [(0, [1, 2, 3]), (1, [1, 2, 3, 9]), (2, [2, 9, 19]), (3, [6, 7, 8]), (4, [9, 10, 11]), (5, [9, 10, 27]), (6, [6, 7, 8]), (7, [12])]) (lkL [(1, [(4, ROrc.val (Orc.obj (nth [encPacks x, encR gl])))]), (2, [(2, ROrc.pcall (int i64 0))]), (4, [(2, ROrc.pcall (tup 2 (nth [agg 8 fun (x : Nat) => any, AV.bool false]))), (7, ROrc.val (Orc.obj fun (x : Nat) => any))])]) (fun (Q : AEx → St R.σ → Prop) => 1 ≤ 1 ∧ 2 ≤ 2 ∧ (∀ (c : Nat), c < 2 → nth [encPacks x, encR gl] c = over (nth [fz Fz.nil 0 0 fun (x x_1 : Nat) => any, fz Fz.nil 0 0 fun (x x_1 : Nat) => any]) 0 2 (List.brecOn (motive := fun (x : List AV) => Nat → AV) [encPacks x, encR gl] nth._f) c) ∧ 1 ≤ 1 ∧ (∀ (hp : List AObj) (g : R.σ), true = true ∧ Does Tryd.prog R 47 [encIx x, encR gl] hp g (ret (int i64 0)) hp g) ∧ (false = true → Q AEx.ret (St.mk [(6, int i64 0), (7, int i64 0), (8, int i64 2)] [cells false 1 (nth [encPacks x]), cells false 2 (nth [encPacks x, encR gl])] g)) ∧ (false = false → 2 ≤ 2 ∧ (∀ (hp : List AObj) (g : R.σ), true = true ∧ Does Tryd.prog R 48 [encMkt x gl, encI l] hp g (ret (tup 2 (nth [agg 8 fun (x : Nat) => any, AV.bool false]))) hp g) ∧ 8 ≤ 8 ∧ (∀ (c : Nat), c < 8 → any = over (nth [int i64 0, int i64 0, int i64 0, int i64 0, int i64 0, int i64 0, int i64 0, int i64 0]) 0 8 (fun (x : Nat) => any) c) ∧ (true = true → Q AEx.ret (St.mk [(6, int i64 0), (7, int i64 0), (8, int i64 2)] [cells false 1 (nth [encPacks x]), cells false 2 (nth [encPacks x, encR gl]), cells false 8 fun (x : Nat) => any] g)) ∧ (true = false → False))) (fun _ => by kernel_rfl) ⟨(by omega), ⟨(by omega), ⟨(fun c hc => match c, hc with | 0, _ => (by kernel_rfl) | 1, _ => (by kernel_rfl) ), ⟨(by omega), ⟨(fun _ _ => ⟨rfl, (Go.Avm.Pack.c_Check_t _ _ _ _ _ (by omega) (by omega) (by omega))⟩), ⟨fun h => (nomatch h), fun _ => ⟨(by omega), ⟨(fun _ _ => ⟨rfl, (Go.Avm.Pack.c_planned_f _ _ _ _ _ _ (by omega) (by omega) (by omega))⟩), ⟨(by omega), ⟨(fun c hc => match c, hc with | 0, _ => (by kernel_rfl) | 1, _ => (by kernel_rfl) | 2, _ => (by kernel_rfl) | 3, _ => (by kernel_rfl) | 4, _ => (by kernel_rfl) | 5, _ => (by kernel_rfl) | 6, _ => (by kernel_rfl) | 7, _ => (by kernel_rfl) ), ⟨fun _ => ?_, fun h => (nomatch h)⟩⟩⟩⟩⟩⟩⟩⟩⟩⟩⟩
      refine (retQ_le (retQ_drop _ _ rfl trivial ⟨⟨⟨trivial, trivial⟩, trivial⟩, trivial⟩ rfl) (Le.refl _))
    | true =>
      have hin := planned_inP hpl
      have hN := formed_wfN hfo hin
      have hB := formed_wfB hfo hin
      have hN' := formed_smallN hfo hin
      have hB' := formed_smallB hfo hin
      have hf : faultR x gl.l l.l = ((faultOf x gl.l (planOf l.l x.l.length)).1, (faultOf x gl.l (planOf l.l x.l.length)).2, 0) := by unfold faultR; rw [hc, hpl]; rfl
      rw [hf]
      refine vcQ [] (lkL [(0, [1, 2, 3]), (1, [1, 2, 3, 9]), (2, [2, 9, 19]), (3, [6, 7, 8]), (4, [9, 10, 11]), (5, [9, 10, 27]), (6, [6, 7, 8]), (7, [12]), (8, [6, 7, 8])]) (lkL [(1, [(4, ROrc.val (Orc.obj (nth [encPacks x, encR gl])))]), (2, [(2, ROrc.pcall (int i64 0))]), (4, [(2, ROrc.pcall (tup 2 (nth [encPlan (planOf l.l (List.length x.l)), AV.bool true]))), (7, ROrc.val (Orc.obj fun (j : Nat) => int i64 (planOf l.l (List.length x.l) j)))]), (7, [(2, ROrc.pcall (agg 2 (nth [int i64 (faultOf x gl.l (planOf l.l (List.length x.l))).fst, int i64 (faultOf x gl.l (planOf l.l (List.length x.l))).snd]))), (4, ROrc.val (Orc.obj (nth [int i64 (faultOf x gl.l (planOf l.l (List.length x.l))).fst, int i64 (faultOf x gl.l (planOf l.l (List.length x.l))).snd])))])]) (fun (Q : AEx → St R.σ → Prop) => 1 ≤ 1 ∧ 2 ≤ 2 ∧ (∀ (c : Nat), c < 2 → nth [encPacks x, encR gl] c = over (nth [fz Fz.nil 0 0 fun (x x_1 : Nat) => any, fz Fz.nil 0 0 fun (x x_1 : Nat) => any]) 0 2 (List.brecOn (motive := fun (x : List AV) => Nat → AV) [encPacks x, encR gl] nth._f) c) ∧ 1 ≤ 1 ∧ (∀ (hp : List AObj) (g : R.σ), true = true ∧ Does Tryd.prog R 47 [encIx x, encR gl] hp g (ret (int i64 0)) hp g) ∧ (false = true → Q AEx.ret (St.mk [(6, int i64 0), (7, int i64 0), (8, int i64 2)] [cells false 1 (nth [encPacks x]), cells false 2 (nth [encPacks x, encR gl])] g)) ∧ (false = false → 2 ≤ 2 ∧ (∀ (hp : List AObj) (g : R.σ), true = true ∧ Does Tryd.prog R 48 [encMkt x gl, encI l] hp g (ret (tup 2 (nth [encPlan (planOf l.l (List.length x.l)), AV.bool true]))) hp g) ∧ 8 ≤ 8 ∧ (∀ (c : Nat), c < 8 → int i64 (planOf l.l (List.length x.l) c) = over (nth [int i64 0, int i64 0, int i64 0, int i64 0, int i64 0, int i64 0, int i64 0, int i64 0]) 0 8 (fun (j : Nat) => int i64 (planOf l.l (List.length x.l) j)) c) ∧ (false = true → Q AEx.ret (St.mk [(6, int i64 0), (7, int i64 0), (8, int i64 2)] [cells false 1 (nth [encPacks x]), cells false 2 (nth [encPacks x, encR gl]), cells false 8 fun (j : Nat) => int i64 (planOf l.l (List.length x.l) j)] g)) ∧ (false = false → 2 ≤ 2 ∧ 8 ≤ 8 ∧ (∀ (hp : List AObj) (g : R.σ), true = true ∧ Does Tryd.prog R 49 [encMkt x gl, encPlan (planOf l.l (List.length x.l))] hp g (ret (agg 2 (nth [int i64 (faultOf x gl.l (planOf l.l (List.length x.l))).fst, int i64 (faultOf x gl.l (planOf l.l (List.length x.l))).snd]))) hp g) ∧ 2 ≤ 2 ∧ (∀ (c : Nat), c < 2 → nth [int i64 (faultOf x gl.l (planOf l.l (List.length x.l))).fst, int i64 (faultOf x gl.l (planOf l.l (List.length x.l))).snd] c = over (nth [int i64 0, int i64 0]) 0 2 (List.brecOn (motive := fun (x : List AV) => Nat → AV) [int i64 (faultOf x gl.l (planOf l.l (List.length x.l))).fst, int i64 (faultOf x gl.l (planOf l.l (List.length x.l))).snd] nth._f) c) ∧ Tables.follows Tryd.prog.toTables Departure.mixedOrders = true ∧ 1 ≤ 2 ∧ 2 ≤ 2 ∧ Q AEx.ret (St.mk [(6, int i64 (faultOf x gl.l (planOf l.l (List.length x.l))).fst), (7, int i64 (faultOf x gl.l (planOf l.l (List.length x.l))).snd), (8, int i64 0)] [cells false 1 (nth [encPacks x]), cells false 2 (nth [encPacks x, encR gl]), cells false 8 fun (j : Nat) => int i64 (planOf l.l (List.length x.l) j), cells false 2 (nth [int i64 (faultOf x gl.l (planOf l.l (List.length x.l))).fst, int i64 (faultOf x gl.l (planOf l.l (List.length x.l))).snd])] g)))) (fun _ => by kernel_rfl) ⟨(by omega), ⟨(by omega), ⟨(fun c hc => match c, hc with | 0, _ => (by kernel_rfl) | 1, _ => (by kernel_rfl) ), ⟨(by omega), ⟨(fun _ _ => ⟨rfl, (Go.Avm.Pack.c_Check_t _ _ _ _ _ (by omega) (by omega) (by omega))⟩), ⟨fun h => (nomatch h), fun _ => ⟨(by omega), ⟨(fun _ _ => ⟨rfl, (Go.Avm.Pack.c_planned_t _ _ _ _ _ _ (by omega) (by omega) (by omega))⟩), ⟨(by omega), ⟨(fun c hc => match c, hc with | 0, _ => (by kernel_rfl) | 1, _ => (by kernel_rfl) | 2, _ => (by kernel_rfl) | 3, _ => (by kernel_rfl) | 4, _ => (by kernel_rfl) | 5, _ => (by kernel_rfl) | 6, _ => (by kernel_rfl) | 7, _ => (by kernel_rfl) ), ⟨fun h => (nomatch h), fun _ => ⟨(by omega), ⟨(by omega), ⟨(fun _ _ => ⟨rfl, (Go.Avm.Pack.c_fault _ _ _ _ _ _ (by omega) (by omega) (by omega) (by omega) (by omega) (by omega) (by omega) (by omega))⟩), ⟨(by omega), ⟨(fun c hc => match c, hc with | 0, _ => (by kernel_rfl) | 1, _ => (by kernel_rfl) ), ⟨(by kernel_rfl), ⟨(by omega), ⟨(by omega), ?_⟩⟩⟩⟩⟩⟩⟩⟩⟩⟩⟩⟩⟩⟩⟩⟩⟩⟩⟩
      refine (retQ_le (retQ_drop _ _ rfl trivial ⟨⟨⟨trivial, trivial⟩, trivial⟩, trivial⟩ rfl) (Le.refl _))
end Go.Avm.Pack
namespace Go.Avm.Pack
open Go Go.Avm Go.Proofs
open Go.IntKind (i64 u64)
open Go.Avm.AV (int bool any fz fp sl ow ref fn ifc val agg tup)
open Go.Avm.AObj (cells dead)
open Go.Avm.Oc (ret)
set_option maxRecDepth 4000

abbrev ndf (x : Ix) (p : Nat → Int) (n : Nat) : Nat → Rng → Nat := fun s r => dfs x p n s r.pack.toNat
end Go.Avm.Pack
namespace Go.Avm.Pack
open Go Go.Avm Go.Proofs
open Go.IntKind (i64 u64)
open Go.Avm.AV (int bool any fz fp sl ow ref fn ifc val agg tup)
open Go.Avm.AObj (cells dead)
open Go.Avm.Oc (ret)
set_option maxRecDepth 4000
def setCells (s : Nat) : Nat → AV := fun j => .bool (s.testBit j)
def Inv (z n s : Nat) (c : Bool) (q : Prop) : Prop := (∀ b, z.testBit b = true → s.testBit b = true) ∧ (∀ b, s.testBit b = true → n.testBit b = true) ∧ (c = false → s = z ∧ q) ∧ (c = true → room s < room z)
end Go.Avm.Pack
namespace Go.Avm.Pack
open Go Go.Avm Go.Proofs
open Go.IntKind (i64 u64)
open Go.Avm.AV (int bool any fz fp sl ow ref fn ifc val agg tup)
open Go.Avm.AObj (cells dead)
open Go.Avm.Oc (ret)
set_option maxRecDepth 4000
end Go.Avm.Pack
namespace Go.Avm.Pack
open Go Go.Avm Go.Proofs
open Go.IntKind (i64 u64)
open Go.Avm.AV (int bool any fz fp sl ow ref fn ifc val agg tup)
open Go.Avm.AObj (cells dead)
open Go.Avm.Oc (ret)
set_option maxRecDepth 4000
def clsC (q : Nat → Clause) : Nat → AV := fun j => clC (q (j / 4)) (j % 4)
theorem below_clC {k : Nat} (r : Clause) : ∀ m, Below k (clC r m)
  | 0 => trivial
  | 1 => trivial
  | 2 => trivial
  | 3 => trivial
  | _ + 4 => trivial
theorem below_clsC {k : Nat} (q : Nat → Clause) (j : Nat) : Below k (clsC q j) := below_clC _ _
theorem clsC_append {q : Nat → Clause} {i k : Nat} {z f : Nat → AV} (hk : k < (i + 1) * 4) (hf : ∀ m, m < 4 → f m = clC (q i) m) : clsC q k = plainJ 4 i (fun a b => clsC q (a * 4 + b)) (fun a b => over z 0 4 f (0 + a * 4 + b)) k := by
  unfold plainJ
  by_cases h : k < i * 4
  · rw [if_pos h]
    show _ = clsC q (k / 4 * 4 + k % 4)
    rw [show k / 4 * 4 + k % 4 = k by omega]
  · rw [if_neg h]
    show _ = over z 0 4 f (0 + (k - i * 4) / 4 * 4 + (k - i * 4) % 4)
    rw [over_eq, show (k - i * 4) / 4 = 0 by omega, show (k - i * 4) % 4 = k - i * 4 by omega, if_pos (by omega)]
    show clC (q (k / 4)) (k % 4) = _
    rw [show k / 4 = i by omega, show k % 4 = k - i * 4 by omega, ← hf _ (by omega)]
    congr 1
    omega
def numQ (c : Clause) (i : Nat) : Clause := ⟨c.pack, c.rel, c.bar, i⟩
theorem numbered_all (R : Res) (l : KL Rng) (c : Clause) (g : R.σ) (hl : l.l.length < 1000000) :
    Does Tryd.prog R 89 [encR l, encCl c] [] g (.ret (.ow true 1 l.l.length 4)) [.cells false 4 (nth [.int .i64 c.pack, .int .i64 c.rel, .bool c.bar, .any]), .cells false (l.l.length * 4) (clsC (numQ c))] g := by
  refine spec_of_wp (nt := 20) (rs := [.tmp 4]) (k0 := 0) (by kernel_rfl) (by kernel_rfl) (by kernel_rfl) rfl ?_
  refine vcQ [] (lkL [(0, [0, 3]), (1, [0, 3, 5]), (2, [3, 5, 8, 9])]) (fun _ => []) (fun (Q : AEx → St R.σ → Prop) => Wp Tryd.prog R 20 0 Rd.top (bodyOf Tryd.prog 89) [1, 1, 0, 1, 0] (contQ Tryd.prog R 20 0 Rd.top (bodyOf Tryd.prog 89) Q [Kont.blk 0, Kont.seq [1, 1, 1]]) (St.mk [(3, ref 0 0), (5, fz Fz.nil 0 0 fun (x x_1 : Nat) => any), (8, int i64 (↑(List.length l.l) : Int)), (9, int i64 0)] [cells false 4 (nth [int i64 c.pack, int i64 c.rel, AV.bool c.bar, int i64 c.which])] g)) (fun _ => by kernel_rfl) (?_)
  refine (wp_loop (by kernel_rfl) (fun (i : Nat) => ⟨[(3, ref 0 0), (5, .ow true 1 i 4), (8, int i64 (↑(List.length l.l) : Int)), (9, .int .i64 (i : Int))], [.cells false 4 (nth [.int .i64 c.pack, .int .i64 c.rel, .bool c.bar, .any]), .cells false (i * 4) (clsC (numQ c))], g⟩) (fun (i : Nat) => (i ≤ l.l.length)) (fun (i : Nat) => (l.l.length - i)) 0 (To.trans (to_ghost (fun _ => .any)) (to_le ⟨(Le.refl _), ⟨Le.nil_ow, ⟨(Le.refl _), ⟨(Le.of_eq (by kernel_rfl)), trivial⟩⟩⟩⟩ ⟨⟨rfl, Nat.le_refl _, fun j hj => match j, hj with | 0, _ => (Le.refl _) | 1, _ => (Le.refl _) | 2, _ => (Le.refl _) | 3, _ => (Le.any _) ⟩, ⟨⟨rfl, Nat.le_refl _, fun j hj => absurd hj (by omega)⟩, trivial⟩⟩ rfl)) ?_ (fun i hi => ?_))
  · exact Nat.zero_le _
  · refine vcQ [] (lkL [(3, [3, 5, 8, 9, 10]), (4, [3, 5, 6, 8, 9]), (5, [3, 5, 8, 9]), (6, [3, 5, 8, 9]), (7, [3, 5, 8, 9])]) (lkL [(5, [(2, ROrc.val (Orc.obj (nth [int i64 c.pack, int i64 c.rel, AV.bool c.bar, int i64 (↑i : Int)])))]), (6, [(3, ROrc.val (Orc.obj (clsC (numQ c))))])]) (fun (Q : AEx → St R.σ → Prop) => (decide ((↑i : Int) < (↑(List.length l.l) : Int)) = true → 4 ≤ 4 ∧ (∀ (c_1 : Nat), c_1 < 4 → nth [int i64 c.pack, int i64 c.rel, AV.bool c.bar, int i64 (↑i : Int)] c_1 = over (nth [int i64 c.pack, int i64 c.rel, AV.bool c.bar, any]) 3 1 (fun (x : Nat) => int i64 (↑i : Int)) c_1) ∧ 4 ≤ 4 ∧ 0 < 4 ∧ (i + 1) * 32 ≤ maxRoom ∧ i + 1 ≤ maxRoom ∧ 4 ≤ 4 ∧ i * 4 ≤ i * 4 ∧ (∀ (c_1 : Nat), c_1 < (i + 1) * 4 → clsC (numQ c) c_1 = plainJ 4 i (fun (i j : Nat) => clsC (numQ c) (i * 4 + j)) (fun (i_1 j : Nat) => over (fun (j : Nat) => nth [int i64 0, int i64 0, AV.bool false, int i64 0] (j % 4)) 0 4 (List.brecOn (motive := fun (x : List AV) => Nat → AV) [int i64 c.pack, int i64 c.rel, AV.bool c.bar, int i64 (↑i : Int)] nth._f) (0 + i_1 * 4 + j)) c_1) ∧ (-9223372036854775808 ≤ (↑i : Int) + 1 ∧ (↑i : Int) + 1 ≤ 9223372036854775807) ∧ Q AEx.normal (St.mk [(3, ref 0 0), (5, ow true 3 (i + 1) 4), (8, int i64 (↑(List.length l.l) : Int)), (9, int i64 ((↑i : Int) + 1))] [cells false 4 (nth [int i64 c.pack, int i64 c.rel, AV.bool c.bar, int i64 (↑i : Int)]), dead, cells false 4 (over (fun (j : Nat) => nth [int i64 0, int i64 0, AV.bool false, int i64 0] (j % 4)) 0 4 (List.brecOn (motive := fun (x : List AV) => Nat → AV) [int i64 c.pack, int i64 c.rel, AV.bool c.bar, int i64 (↑i : Int)] nth._f)), cells false ((i + 1) * 4) (clsC (numQ c))] g)) ∧ (decide ((↑i : Int) < (↑(List.length l.l) : Int)) = false → Q (AEx.exit 0) (St.mk [(3, ref 0 0), (5, ow true 1 i 4), (8, int i64 (↑(List.length l.l) : Int)), (9, int i64 (↑i : Int)), (10, AV.bool (decide ((↑i : Int) < (↑(List.length l.l) : Int))))] [cells false 4 (nth [int i64 c.pack, int i64 c.rel, AV.bool c.bar, any]), cells false (i * 4) (clsC (numQ c))] g))) (fun _ => by kernel_rfl) ⟨fun c1 => have c1 : (↑i : Int) < (↑(List.length l.l) : Int) := (of_decide_eq_true c1); ⟨(by omega), ⟨(fun c hc => match c, hc with | 0, _ => (by kernel_rfl) | 1, _ => (by kernel_rfl) | 2, _ => (by kernel_rfl) | 3, _ => (by kernel_rfl) ), ⟨(by omega), ⟨(by omega), ⟨?_, ⟨?_, ⟨(by omega), ⟨(by omega), ⟨?_, ⟨(by omega), ?_⟩⟩⟩⟩⟩⟩⟩⟩⟩⟩, fun c1 => have c1 : ¬(↑i : Int) < (↑(List.length l.l) : Int) := (of_decide_eq_false c1); ?_⟩
    · unfold maxRoom; omega
    · unfold maxRoom; omega
    · exact fun k hk => clsC_append (q := numQ c) hk (fun m hm => match m, hm with | 0, _ => rfl | 1, _ => rfl | 2, _ => rfl | 3, _ => rfl)
    · refine (next_round (i + 1) (to_sel [0, 3] 4 rfl rfl rfl rfl rfl ⟨(Le.refl _), ⟨(Le.refl _), ⟨(Le.refl _), ⟨(Le.refl _), trivial⟩⟩⟩⟩ ⟨⟨rfl, Nat.le_refl _, fun j hj => match j, hj with | 0, _ => (Le.refl _) | 1, _ => (Le.refl _) | 2, _ => (Le.refl _) | 3, _ => (Le.any _) ⟩, ⟨⟨by first | rfl | (simp; done), by first | exact Nat.le_refl _ | (simp; omega), fun j hj => le_ren (by first | exact trivial | apply Go.Avm.Pack.below_clsC)⟩, trivial⟩⟩) ?_ ?_)
      · omega
      · omega
    · have e : i = l.l.length := by omega
      rw [e]
      refine ⟨_, To.refl _, vcQ [] (lkL [(8, [4])]) (fun _ => []) (fun (Q : AEx → St R.σ → Prop) => Q AEx.ret (St.mk [(4, ow true 1 (List.length l.l) 4)] [cells false 4 (nth [int i64 c.pack, int i64 c.rel, AV.bool c.bar, any]), cells false (List.length l.l * 4) (clsC (numQ c))] g)) (fun _ => by kernel_rfl) (?_)⟩
      refine (retQ_le (retQ_same' _ _ rfl trivial rfl rfl rfl) (Le.refl _))
def clsL (l : List Clause) : Nat → AV := clsC (fun j => l.getD j default)
def nums (c : Clause) (n : Nat) : List Clause := (List.range n).map (numQ c)
theorem nums_getD {c : Clause} {n i : Nat} (h : i < n) : (nums c n).getD i default = numQ c i := by
  unfold nums
  simp [List.getD, h]
theorem c_numbered (R : Res) (l : KL Rng) (c : Clause) (g : R.σ) (hl : l.l.length < 1000000) :
    Does Tryd.prog R 89 [encR l, encCl c] [] g (.ret (.ow true 1 l.l.length 4)) [.dead, .cells false (l.l.length * 4) (clsL (nums c l.l.length))] g :=
  does_le (numbered_all R l c g hl) ⟨LeO.dead _, LeO.cells (fun j hj => by
    show clC (numQ c (j / 4)) (j % 4) = clC ((nums c l.l.length).getD (j / 4) default) (j % 4)
    rw [nums_getD (by omega)]), trivial⟩
theorem below_clsL {k : Nat} (l : List Clause) (j : Nat) : Below k (clsL l j) := below_clC _ _
end Go.Avm.Pack
namespace Go.Avm.Pack
open Go Go.Avm Go.Proofs
open Go.IntKind (i64 u64)
open Go.Avm.AV (int bool any fz fp sl ow ref fn ifc val agg tup)
open Go.Avm.AObj (cells dead)
open Go.Avm.Oc (ret)
set_option maxRecDepth 4000
def relCl (i k : Nat) (r : Rel) : List Clause := nums ⟨i, k, false, 0⟩ r.needs.l.length ++ nums ⟨i, k, true, 0⟩ r.bars.l.length
def preL (i : Nat) (l : List Rel) (k : Nat) : List Clause := (List.range k).flatMap fun k => relCl i k (l.getD k default)
def preP (x : Ix) (m : Nat) (i : Nat) : List Clause := nums ⟨-1, 0, false, 0⟩ m ++ (List.range i).flatMap fun i => preL i (x.l.getD i default).l (x.l.getD i default).l.length
def preR (x : Ix) (m : Nat) (i k : Nat) : List Clause := preP x m i ++ preL i (x.l.getD i default).l k
def clausesOf (x : Ix) (gl : List Rng) : List Clause := preP x gl.length x.l.length
theorem preP_zero (x : Ix) (m : Nat) : preP x m 0 = nums ⟨-1, 0, false, 0⟩ m := by simp [preP]
theorem preR_zero (x : Ix) (m i : Nat) : preR x m i 0 = preP x m i := by simp [preR, preL]
theorem preL_succ (i : Nat) (l : List Rel) (k : Nat) : preL i l (k + 1) = preL i l k ++ relCl i k (l.getD k default) := by
  unfold preL
  rw [List.range_succ, List.flatMap_append]
  simp
theorem preR_succ (x : Ix) (m i k : Nat) : preR x m i (k + 1) = preR x m i k ++ relCl i k ((x.l.getD i default).l.getD k default) := by
  unfold preR
  rw [preL_succ, List.append_assoc]
theorem preP_succ (x : Ix) (m i : Nat) : preP x m (i + 1) = preR x m i (x.l.getD i default).l.length := by
  unfold preR preP
  rw [List.range_succ, List.flatMap_append]
  simp
theorem nums_len (c : Clause) (n : Nat) : (nums c n).length = n := by simp [nums]
theorem relCl_len (i k : Nat) (r : Rel) : (relCl i k r).length = r.needs.l.length + r.bars.l.length := by simp [relCl, nums_len]
theorem preL_len {x : Ix} (h : formedB x = true) {i : Nat} (hi : i < x.l.length) : ∀ k, k ≤ (x.l.getD i default).l.length → (preL i (x.l.getD i default).l k).length ≤ 8 * k
  | 0, _ => by simp [preL]
  | k + 1, hk => by
    have h1 := preL_len h hi k (by omega)
    have h2 := formed_rel h hi (show k < _ by omega)
    unfold relB at h2
    simp only [Bool.and_eq_true, decide_eq_true_eq] at h2
    rw [preL_succ, List.length_append, relCl_len]
    omega
theorem formed_five {x : Ix} (h : formedB x = true) {i : Nat} (hi : i < x.l.length) : (x.l.getD i default).l.length ≤ 5 := by
  unfold formedB at h
  simp only [Bool.and_eq_true] at h
  have h2 : ∀ j, j ∈ List.range x.l.length → relsB x j (x.l.getD j default).l = true := List.all_eq_true.1 h.2
  have h3 := h2 i (by simpa using hi)
  unfold relsB at h3
  simp only [Bool.and_eq_true, decide_eq_true_eq] at h3
  exact h3.1
theorem preP_len {x : Ix} (h : formedB x = true) {m : Nat} : ∀ i, i ≤ x.l.length → (preP x m i).length ≤ m + 40 * i
  | 0, _ => by rw [preP_zero, nums_len]; omega
  | i + 1, hi => by
    have h1 := preP_len h (m := m) i (by omega)
    have h2 := preL_len h (show i < _ by omega) _ (Nat.le_refl _)
    have h3 := formed_five h (show i < _ by omega)
    rw [preP_succ]
    unfold preR
    rw [List.length_append]
    omega
theorem preR_len {x : Ix} (h : formedB x = true) {m i k : Nat} (hi : i < x.l.length) (hk : k ≤ (x.l.getD i default).l.length) : (preR x m i k).length ≤ m + 40 * 8 := by
  have h1 := preP_len h (m := m) i (by omega)
  have h2 := preL_len h hi k hk
  have h3 := formed_five h hi
  have h4 := (formed_le h).2
  unfold preR
  rw [List.length_append]
  omega
theorem clsL_append {a b : List Clause} {k : Nat} : clsL (a ++ b) k = plainJ 4 a.length (fun i j => clsL a (i * 4 + j)) (fun i j => clsL b (i * 4 + j)) k := by
  unfold plainJ
  by_cases h : k < a.length * 4
  · rw [if_pos h]
    show clC ((a ++ b).getD (k / 4) default) (k % 4) = clC (a.getD ((k / 4 * 4 + k % 4) / 4) default) ((k / 4 * 4 + k % 4) % 4)
    rw [show k / 4 * 4 + k % 4 = k by omega, List.getD_eq_getElem?_getD, List.getD_eq_getElem?_getD, List.getElem?_append_left (by omega)]
  · rw [if_neg h]
    show clC ((a ++ b).getD (k / 4) default) (k % 4) = clC (b.getD (((k - a.length * 4) / 4 * 4 + (k - a.length * 4) % 4) / 4) default) (((k - a.length * 4) / 4 * 4 + (k - a.length * 4) % 4) % 4)
    rw [show (k - a.length * 4) / 4 * 4 + (k - a.length * 4) % 4 = k - a.length * 4 by omega, List.getD_eq_getElem?_getD, List.getD_eq_getElem?_getD, List.getElem?_append_right (by omega), show k / 4 - a.length = (k - a.length * 4) / 4 by omega, show (k - a.length * 4) % 4 = k % 4 by omega]
theorem clauses_all (R : Res) (x : Ix) (gl : KL Rng) (g : R.σ) (hs : small x) (h : formedB x = true) (hg : gl.l.length ≤ 4) :
    Does Tryd.prog R 53 [encMkt x gl] [] g (.ret (.ow true 2 (clausesOf x gl.l).length 4)) [.cells false 2 (nth [encPacks x, encR gl]), .dead, .cells false ((clausesOf x gl.l).length * 4) (clsL (clausesOf x gl.l))] g := by
  have h8 := (formed_le h).2
  refine spec_of_wp (nt := 47) (rs := [.tmp 2]) (k0 := 0) (by kernel_rfl) (by kernel_rfl) (by kernel_rfl) rfl ?_
  refine vcQ [] (lkL [(0, [1]), (1, [1, 3]), (2, [3, 14, 15, 16])]) (lkL [(1, [(3, ROrc.call (ow true 2 (List.length gl.l) 4) [cells false 2 (nth [encPacks x, encR gl]), dead, cells false (List.length gl.l * 4) (clsL (nums (Clause.mk (-1) 0 false 0) (List.length gl.l)))] g)])]) (fun (Q : AEx → St R.σ → Prop) => 2 ≤ 2 ∧ (true = true ∧ Does Tryd.prog R 89 [encR gl, agg 4 (nth [int i64 (-1), int i64 0, AV.bool false, int i64 0])] [cells false 2 (nth [encPacks x, encR gl])] g (ret (ow true 2 (List.length gl.l) 4)) [cells false 2 (nth [encPacks x, encR gl]), dead, cells false (List.length gl.l * 4) (clsL (nums (Clause.mk (-1) 0 false 0) (List.length gl.l)))] g) ∧ 1 ≤ 2 ∧ Wp Tryd.prog R 47 0 Rd.top (bodyOf Tryd.prog 53) [1, 1, 0, 1, 0] (contQ Tryd.prog R 47 0 Rd.top (bodyOf Tryd.prog 53) Q [Kont.blk 0, Kont.seq [1, 1, 1]]) (St.mk [(3, ow true 2 (List.length gl.l) 4), (14, encPacks x), (15, int i64 (↑(List.length x.l) : Int)), (16, int i64 0)] [cells false 2 (nth [encPacks x, encR gl]), dead, cells false (List.length gl.l * 4) (clsL (nums (Clause.mk (-1) 0 false 0) (List.length gl.l)))] g)) (fun _ => by kernel_rfl) ⟨(by omega), ⟨⟨rfl, (does_sub' [] 1 (fun R g => Go.Avm.Pack.c_numbered R (gl) (Clause.mk (-1) 0 false 0) g (by omega)) rfl rfl rfl (by exact trivial) (by exact trivial) (by exact ⟨le_ren (by exact trivial), ⟨le_ren (by exact ⟨⟨⟨⟨trivial, trivial⟩, trivial⟩, trivial⟩, trivial⟩), trivial⟩⟩) (by exact (Le.refl _)) (by exact ⟨LeO.rflc, ⟨trivial, ⟨⟨rfl, Nat.le_refl _, fun j hj => le_unren (by first | exact trivial | apply Go.Avm.Pack.below_clsL)⟩, trivial⟩⟩⟩))⟩, ⟨(by omega), ?_⟩⟩⟩
  refine (wp_loop (by kernel_rfl) (fun (i : Nat) => ⟨[(3, .ow true 2 (preP x gl.l.length i).length 4), (14, encPacks x), (15, int i64 (↑(List.length x.l) : Int)), (16, .int .i64 (i : Int))], [.cells false 2 (nth [encPacks x, encR gl]), .dead, .cells false ((preP x gl.l.length i).length * 4) (clsL (preP x gl.l.length i))], g⟩) (fun (i : Nat) => (i ≤ x.l.length)) (fun (i : Nat) => (x.l.length - i)) 0 (to_le ⟨(Le.of_eq ?_), ⟨(Le.refl _), ⟨(Le.refl _), ⟨(Le.of_eq (by kernel_rfl)), trivial⟩⟩⟩⟩ ⟨LeO.rflc, ⟨(LeO.dead _), ⟨?_, trivial⟩⟩⟩ rfl) ?_ (fun i hi => ?_))
  · rw [preP_zero, nums_len]; rfl
  · rw [preP_zero, nums_len]; exact LeO.rflc
  · exact Nat.zero_le _
  · have hs2 := hs.2 i
    refine vcQ [] (lkL [(3, [3, 14, 15, 16, 17]), (4, [3, 4, 5, 14, 15, 16]), (5, [3, 4, 14, 15, 16, 21, 22, 23])]) (fun _ => []) (fun (Q : AEx → St R.σ → Prop) => (decide ((↑i : Int) < (↑(List.length x.l) : Int)) = true → (0 ≤ (↑i : Int) ∧ (↑i : Int) < (↑(List.length x.l) : Int)) ∧ 1 ≤ 1 ∧ Wp Tryd.prog R 47 0 Rd.top (bodyOf Tryd.prog 53) [1, 1, 0, 1, 0, 0, 1, 1, 0, 0, 1, 1, 0] (contQ Tryd.prog R 47 0 Rd.top (bodyOf Tryd.prog 53) Q [Kont.blk 2, Kont.blk 1, Kont.seq [1, 1, 0, 1, 0, 0, 1, 1, 1]]) (St.mk [(3, ow true 2 (List.length (preP x (List.length gl.l) i)) 4), (4, int i64 (↑i : Int)), (14, encPacks x), (15, int i64 (↑(List.length x.l) : Int)), (16, int i64 (↑i : Int)), (21, encRels (List.getD x.l i default)), (22, int i64 (↑(List.length (List.getD x.l i default).l) : Int)), (23, int i64 0)] [cells false 2 (nth [encPacks x, encR gl]), dead, cells false (List.length (preP x (List.length gl.l) i) * 4) (clsL (preP x (List.length gl.l) i))] g)) ∧ (decide ((↑i : Int) < (↑(List.length x.l) : Int)) = false → Q (AEx.exit 0) (St.mk [(3, ow true 2 (List.length (preP x (List.length gl.l) i)) 4), (14, encPacks x), (15, int i64 (↑(List.length x.l) : Int)), (16, int i64 (↑i : Int)), (17, AV.bool (decide ((↑i : Int) < (↑(List.length x.l) : Int))))] [cells false 2 (nth [encPacks x, encR gl]), dead, cells false (List.length (preP x (List.length gl.l) i) * 4) (clsL (preP x (List.length gl.l) i))] g))) (fun _ => by kernel_rfl) ⟨fun c1 => have c1 : (↑i : Int) < (↑(List.length x.l) : Int) := (of_decide_eq_true c1); ⟨(by omega), ⟨(by omega), ?_⟩⟩, fun c1 => have c1 : ¬(↑i : Int) < (↑(List.length x.l) : Int) := (of_decide_eq_false c1); ?_⟩
    · have hi' : i < x.l.length := by omega
      refine (wp_loop (by kernel_rfl) (fun (k : Nat) => ⟨[(3, .ow true 2 (preR x gl.l.length i k).length 4), (4, int i64 (↑i : Int)), (14, encPacks x), (15, int i64 (↑(List.length x.l) : Int)), (16, int i64 (↑i : Int)), (21, encRels (List.getD x.l i default)), (22, int i64 (↑(List.length (List.getD x.l i default).l) : Int)), (23, .int .i64 (k : Int))], [.cells false 2 (nth [encPacks x, encR gl]), .dead, .cells false ((preR x gl.l.length i k).length * 4) (clsL (preR x gl.l.length i k))], g⟩) (fun (k : Nat) => (k ≤ (x.l.getD i default).l.length)) (fun (k : Nat) => ((x.l.getD i default).l.length - k)) 0 (to_le ⟨(Le.of_eq ?_), ⟨(Le.refl _), ⟨(Le.refl _), ⟨(Le.refl _), ⟨(Le.refl _), ⟨(Le.refl _), ⟨(Le.refl _), ⟨(Le.of_eq (by kernel_rfl)), trivial⟩⟩⟩⟩⟩⟩⟩⟩ ⟨LeO.rflc, ⟨(LeO.dead _), ⟨?_, trivial⟩⟩⟩ rfl) ?_ (fun k hi => ?_))
      · rw [preR_zero]; rfl
      · rw [preR_zero]; exact LeO.rflc
      · exact Nat.zero_le _
      · have hlen := preR_len h (m := gl.l.length) hi' hi
        have hb : k < (x.l.getD i default).l.length → ((x.l.getD i default).l.getD k default).needs.l.length ≤ 4 ∧ ((x.l.getD i default).l.getD k default).bars.l.length ≤ 4 := fun hk => by
          have h2 := formed_rel h hi' hk
          unfold relB at h2
          simp only [Bool.and_eq_true, decide_eq_true_eq] at h2
          omega
        refine vcQ [] (lkL [(6, [3, 4, 14, 15, 16, 21, 22, 23, 24]), (7, [3, 4, 6, 7, 14, 15, 16, 21, 22, 23]), (8, [3, 4, 6, 7, 14, 15, 16, 21, 22, 23]), (9, [3, 4, 14, 15, 16, 21, 22, 23]), (10, [3, 4, 14, 15, 16, 21, 22, 23])]) (lkL [(7, [(5, ROrc.val (Orc.obj (nth [encR (List.getD (List.getD x.l i default).l k default).needs, encR (List.getD (List.getD x.l i default).l k default).bars])))]), (8, [(6, ROrc.call (ow true 5 (List.length (List.getD (List.getD x.l i default).l k default).needs.l) 4) [cells false 2 (nth [encPacks x, encR gl]), dead, cells false (List.length (preR x (List.length gl.l) i k) * 4) (clsL (preR x (List.length gl.l) i k)), cells false 2 (nth [encR (List.getD (List.getD x.l i default).l k default).needs, encR (List.getD (List.getD x.l i default).l k default).bars]), dead, cells false (List.length (List.getD (List.getD x.l i default).l k default).needs.l * 4) (clsL (nums (Clause.mk (↑i) (↑k) false 0) (List.length (List.getD (List.getD x.l i default).l k default).needs.l)))] g), (7, ROrc.val (Orc.obj (clsL (preR x (List.length gl.l) i k ++ nums (Clause.mk (↑i : Int) (↑k : Int) false 0) (List.length (List.getD (List.getD x.l i default).l k default).needs.l)))))]), (9, [(6, ROrc.call (ow true 8 (List.length (List.getD (List.getD x.l i default).l k default).bars.l) 4) [cells false 2 (nth [encPacks x, encR gl]), dead, dead, cells false 2 (nth [encR (List.getD (List.getD x.l i default).l k default).needs, encR (List.getD (List.getD x.l i default).l k default).bars]), dead, cells false (List.length (List.getD (List.getD x.l i default).l k default).needs.l * 4) (clsL (nums (Clause.mk (↑i) (↑k) false 0) (List.length (List.getD (List.getD x.l i default).l k default).needs.l))), cells false ((List.length (preR x (List.length gl.l) i k) + List.length (List.getD (List.getD x.l i default).l k default).needs.l) * 4) (clsL (preR x (List.length gl.l) i k ++ nums (Clause.mk (↑i : Int) (↑k : Int) false 0) (List.length (List.getD (List.getD x.l i default).l k default).needs.l))), dead, cells false (List.length (List.getD (List.getD x.l i default).l k default).bars.l * 4) (clsL (nums (Clause.mk (↑i) (↑k) true 0) (List.length (List.getD (List.getD x.l i default).l k default).bars.l)))] g), (7, ROrc.val (Orc.obj (clsL (preR x (List.length gl.l) i k ++ nums (Clause.mk (↑i : Int) (↑k : Int) false 0) (List.length (List.getD (List.getD x.l i default).l k default).needs.l) ++ nums (Clause.mk (↑i : Int) (↑k : Int) true 0) (List.length (List.getD (List.getD x.l i default).l k default).bars.l)))))])]) (fun (Q : AEx → St R.σ → Prop) => (decide ((↑k : Int) < (↑(List.length (List.getD x.l i default).l) : Int)) = true → (0 ≤ (↑k : Int) ∧ (↑k : Int) < (↑(List.length (List.getD x.l i default).l) : Int)) ∧ 2 ≤ 2 ∧ 2 ≤ 2 ∧ (∀ (c : Nat), c < 2 → nth [encR (List.getD (List.getD x.l i default).l k default).needs, encR (List.getD (List.getD x.l i default).l k default).bars] c = over (nth [fz Fz.nil 0 0 fun (x x_2 : Nat) => any, fz Fz.nil 0 0 fun (x x_2 : Nat) => any]) 0 2 (List.brecOn (motive := fun (x : List AV) => Nat → AV) [encR (List.getD (List.getD x.l i default).l k default).needs, encR (List.getD (List.getD x.l i default).l k default).bars] nth._f) c) ∧ 1 ≤ 2 ∧ (true = true ∧ Does Tryd.prog R 89 [encR (List.getD (List.getD x.l i default).l k default).needs, agg 4 (nth [int i64 (↑i : Int), int i64 (↑k : Int), AV.bool false, int i64 0])] [cells false 2 (nth [encPacks x, encR gl]), dead, cells false (List.length (preR x (List.length gl.l) i k) * 4) (clsL (preR x (List.length gl.l) i k)), cells false 2 (nth [encR (List.getD (List.getD x.l i default).l k default).needs, encR (List.getD (List.getD x.l i default).l k default).bars])] g (ret (ow true 5 (List.length (List.getD (List.getD x.l i default).l k default).needs.l) 4)) [cells false 2 (nth [encPacks x, encR gl]), dead, cells false (List.length (preR x (List.length gl.l) i k) * 4) (clsL (preR x (List.length gl.l) i k)), cells false 2 (nth [encR (List.getD (List.getD x.l i default).l k default).needs, encR (List.getD (List.getD x.l i default).l k default).bars]), dead, cells false (List.length (List.getD (List.getD x.l i default).l k default).needs.l * 4) (clsL (nums (Clause.mk (↑i) (↑k) false 0) (List.length (List.getD (List.getD x.l i default).l k default).needs.l)))] g) ∧ 0 < 4 ∧ (List.length (preR x (List.length gl.l) i k) + List.length (List.getD (List.getD x.l i default).l k default).needs.l) * 32 ≤ maxRoom ∧ List.length (preR x (List.length gl.l) i k) + List.length (List.getD (List.getD x.l i default).l k default).needs.l ≤ maxRoom ∧ List.length (List.getD (List.getD x.l i default).l k default).needs.l * 4 ≤ List.length (List.getD (List.getD x.l i default).l k default).needs.l * 4 ∧ List.length (preR x (List.length gl.l) i k) * 4 ≤ List.length (preR x (List.length gl.l) i k) * 4 ∧ (∀ (c : Nat), c < (List.length (preR x (List.length gl.l) i k) + List.length (List.getD (List.getD x.l i default).l k default).needs.l) * 4 → clsL (preR x (List.length gl.l) i k ++ nums (Clause.mk (↑i : Int) (↑k : Int) false 0) (List.length (List.getD (List.getD x.l i default).l k default).needs.l)) c = plainJ 4 (List.length (preR x (List.length gl.l) i k)) (fun (i_1 j : Nat) => clsL (preR x (List.length gl.l) i k) (i_1 * 4 + j)) (fun (i_1 j : Nat) => clsL (nums (Clause.mk (↑i) (↑k) false 0) (List.length (List.getD (List.getD x.l i default).l k default).needs.l)) (i_1 * 4 + j)) c) ∧ 2 ≤ 2 ∧ (true = true ∧ Does Tryd.prog R 89 [encR (List.getD (List.getD x.l i default).l k default).bars, agg 4 (nth [int i64 (↑i : Int), int i64 (↑k : Int), AV.bool true, int i64 0])] [cells false 2 (nth [encPacks x, encR gl]), dead, dead, cells false 2 (nth [encR (List.getD (List.getD x.l i default).l k default).needs, encR (List.getD (List.getD x.l i default).l k default).bars]), dead, cells false (List.length (List.getD (List.getD x.l i default).l k default).needs.l * 4) (clsL (nums (Clause.mk (↑i) (↑k) false 0) (List.length (List.getD (List.getD x.l i default).l k default).needs.l))), cells false ((List.length (preR x (List.length gl.l) i k) + List.length (List.getD (List.getD x.l i default).l k default).needs.l) * 4) (clsL (preR x (List.length gl.l) i k ++ nums (Clause.mk (↑i : Int) (↑k : Int) false 0) (List.length (List.getD (List.getD x.l i default).l k default).needs.l)))] g (ret (ow true 8 (List.length (List.getD (List.getD x.l i default).l k default).bars.l) 4)) [cells false 2 (nth [encPacks x, encR gl]), dead, dead, cells false 2 (nth [encR (List.getD (List.getD x.l i default).l k default).needs, encR (List.getD (List.getD x.l i default).l k default).bars]), dead, cells false (List.length (List.getD (List.getD x.l i default).l k default).needs.l * 4) (clsL (nums (Clause.mk (↑i) (↑k) false 0) (List.length (List.getD (List.getD x.l i default).l k default).needs.l))), cells false ((List.length (preR x (List.length gl.l) i k) + List.length (List.getD (List.getD x.l i default).l k default).needs.l) * 4) (clsL (preR x (List.length gl.l) i k ++ nums (Clause.mk (↑i : Int) (↑k : Int) false 0) (List.length (List.getD (List.getD x.l i default).l k default).needs.l))), dead, cells false (List.length (List.getD (List.getD x.l i default).l k default).bars.l * 4) (clsL (nums (Clause.mk (↑i) (↑k) true 0) (List.length (List.getD (List.getD x.l i default).l k default).bars.l)))] g) ∧ 0 < 4 ∧ (List.length (preR x (List.length gl.l) i k) + List.length (List.getD (List.getD x.l i default).l k default).needs.l + List.length (List.getD (List.getD x.l i default).l k default).bars.l) * 32 ≤ maxRoom ∧ List.length (preR x (List.length gl.l) i k) + List.length (List.getD (List.getD x.l i default).l k default).needs.l + List.length (List.getD (List.getD x.l i default).l k default).bars.l ≤ maxRoom ∧ List.length (List.getD (List.getD x.l i default).l k default).bars.l * 4 ≤ List.length (List.getD (List.getD x.l i default).l k default).bars.l * 4 ∧ (List.length (preR x (List.length gl.l) i k) + List.length (List.getD (List.getD x.l i default).l k default).needs.l) * 4 ≤ (List.length (preR x (List.length gl.l) i k) + List.length (List.getD (List.getD x.l i default).l k default).needs.l) * 4 ∧ (∀ (c : Nat), c < (List.length (preR x (List.length gl.l) i k) + List.length (List.getD (List.getD x.l i default).l k default).needs.l + List.length (List.getD (List.getD x.l i default).l k default).bars.l) * 4 → clsL (preR x (List.length gl.l) i k ++ nums (Clause.mk (↑i : Int) (↑k : Int) false 0) (List.length (List.getD (List.getD x.l i default).l k default).needs.l) ++ nums (Clause.mk (↑i : Int) (↑k : Int) true 0) (List.length (List.getD (List.getD x.l i default).l k default).bars.l)) c = plainJ 4 (List.length (preR x (List.length gl.l) i k) + List.length (List.getD (List.getD x.l i default).l k default).needs.l) (fun (i_1 j : Nat) => clsL (preR x (List.length gl.l) i k ++ nums (Clause.mk (↑i : Int) (↑k : Int) false 0) (List.length (List.getD (List.getD x.l i default).l k default).needs.l)) (i_1 * 4 + j)) (fun (i_1 j : Nat) => clsL (nums (Clause.mk (↑i) (↑k) true 0) (List.length (List.getD (List.getD x.l i default).l k default).bars.l)) (i_1 * 4 + j)) c) ∧ (-9223372036854775808 ≤ (↑k : Int) + 1 ∧ (↑k : Int) + 1 ≤ 9223372036854775807) ∧ Q AEx.normal (St.mk [(3, ow true 9 (List.length (preR x (List.length gl.l) i k) + List.length (List.getD (List.getD x.l i default).l k default).needs.l + List.length (List.getD (List.getD x.l i default).l k default).bars.l) 4), (4, int i64 (↑i : Int)), (14, encPacks x), (15, int i64 (↑(List.length x.l) : Int)), (16, int i64 (↑i : Int)), (21, encRels (List.getD x.l i default)), (22, int i64 (↑(List.length (List.getD x.l i default).l) : Int)), (23, int i64 ((↑k : Int) + 1))] [cells false 2 (nth [encPacks x, encR gl]), dead, dead, cells false 2 (nth [encR (List.getD (List.getD x.l i default).l k default).needs, encR (List.getD (List.getD x.l i default).l k default).bars]), dead, cells false (List.length (List.getD (List.getD x.l i default).l k default).needs.l * 4) (clsL (nums (Clause.mk (↑i) (↑k) false 0) (List.length (List.getD (List.getD x.l i default).l k default).needs.l))), dead, dead, cells false (List.length (List.getD (List.getD x.l i default).l k default).bars.l * 4) (clsL (nums (Clause.mk (↑i) (↑k) true 0) (List.length (List.getD (List.getD x.l i default).l k default).bars.l))), cells false ((List.length (preR x (List.length gl.l) i k) + List.length (List.getD (List.getD x.l i default).l k default).needs.l + List.length (List.getD (List.getD x.l i default).l k default).bars.l) * 4) (clsL (preR x (List.length gl.l) i k ++ nums (Clause.mk (↑i : Int) (↑k : Int) false 0) (List.length (List.getD (List.getD x.l i default).l k default).needs.l) ++ nums (Clause.mk (↑i : Int) (↑k : Int) true 0) (List.length (List.getD (List.getD x.l i default).l k default).bars.l)))] g)) ∧ (decide ((↑k : Int) < (↑(List.length (List.getD x.l i default).l) : Int)) = false → Q (AEx.exit 2) (St.mk [(3, ow true 2 (List.length (preR x (List.length gl.l) i k)) 4), (4, int i64 (↑i : Int)), (14, encPacks x), (15, int i64 (↑(List.length x.l) : Int)), (16, int i64 (↑i : Int)), (21, encRels (List.getD x.l i default)), (22, int i64 (↑(List.length (List.getD x.l i default).l) : Int)), (23, int i64 (↑k : Int)), (24, AV.bool (decide ((↑k : Int) < (↑(List.length (List.getD x.l i default).l) : Int))))] [cells false 2 (nth [encPacks x, encR gl]), dead, cells false (List.length (preR x (List.length gl.l) i k) * 4) (clsL (preR x (List.length gl.l) i k))] g))) (fun _ => by kernel_rfl) ⟨fun c1 => have c1 : (↑k : Int) < (↑(List.length (List.getD x.l i default).l) : Int) := (of_decide_eq_true c1); ⟨(by omega), ⟨(by omega), ⟨(by omega), ⟨(fun c hc => match c, hc with | 0, _ => (by kernel_rfl) | 1, _ => (by kernel_rfl) ), ⟨(by omega), ⟨⟨rfl, (does_sub' [] 4 (fun R g => Go.Avm.Pack.c_numbered R ((List.getD (List.getD x.l i default).l k default).needs) (Clause.mk (↑i) (↑k) false 0) g (by simp at * <;> omega)) rfl rfl rfl (by exact trivial) (by exact trivial) (by exact ⟨le_ren (by exact trivial), ⟨le_ren (by exact ⟨⟨⟨⟨trivial, trivial⟩, trivial⟩, trivial⟩, trivial⟩), trivial⟩⟩) (by exact (Le.refl _)) (by exact ⟨LeO.rflc, ⟨trivial, ⟨LeO.rflc, ⟨LeO.rflc, ⟨trivial, ⟨⟨rfl, Nat.le_refl _, fun j hj => le_unren (by first | exact trivial | apply Go.Avm.Pack.below_clsL)⟩, trivial⟩⟩⟩⟩⟩⟩))⟩, ⟨(by omega), ⟨?_, ⟨?_, ⟨(by omega), ⟨(by omega), ⟨?_, ⟨(by omega), ⟨⟨rfl, (does_sub' [] 7 (fun R g => Go.Avm.Pack.c_numbered R ((List.getD (List.getD x.l i default).l k default).bars) (Clause.mk (↑i) (↑k) true 0) g (by simp at * <;> omega)) rfl rfl rfl (by exact trivial) (by exact trivial) (by exact ⟨le_ren (by exact trivial), ⟨le_ren (by exact ⟨⟨⟨⟨trivial, trivial⟩, trivial⟩, trivial⟩, trivial⟩), trivial⟩⟩) (by exact (Le.refl _)) (by exact ⟨LeO.rflc, ⟨trivial, ⟨trivial, ⟨LeO.rflc, ⟨trivial, ⟨LeO.rflc, ⟨LeO.rflc, ⟨trivial, ⟨⟨rfl, Nat.le_refl _, fun j hj => le_unren (by first | exact trivial | apply Go.Avm.Pack.below_clsL)⟩, trivial⟩⟩⟩⟩⟩⟩⟩⟩⟩))⟩, ⟨(by omega), ⟨?_, ⟨?_, ⟨(by omega), ⟨(by omega), ⟨?_, ⟨(by omega), ?_⟩⟩⟩⟩⟩⟩⟩⟩⟩⟩⟩⟩⟩⟩⟩⟩⟩⟩⟩⟩⟩, fun c1 => have c1 : ¬(↑k : Int) < (↑(List.length (List.getD x.l i default).l) : Int) := (of_decide_eq_false c1); ?_⟩
        · unfold maxRoom; omega
        · unfold maxRoom; omega
        · intro c hc
          rw [clsL_append]
        · unfold maxRoom; omega
        · unfold maxRoom; omega
        · intro c hc
          rw [clsL_append, List.length_append, nums_len]
        · have e2 : (preR x gl.l.length i k).length + ((x.l.getD i default).l.getD k default).needs.l.length + ((x.l.getD i default).l.getD k default).bars.l.length = (preR x gl.l.length i (k + 1)).length := by
            rw [preR_succ, List.length_append, relCl_len]
            omega
          have e3 : (preR x gl.l.length i k ++ nums ⟨i, k, false, 0⟩ ((x.l.getD i default).l.getD k default).needs.l.length) ++ nums ⟨i, k, true, 0⟩ ((x.l.getD i default).l.getD k default).bars.l.length = preR x gl.l.length i (k + 1) := by
            rw [preR_succ]
            unfold relCl
            rw [List.append_assoc]
          rw [e2, e3]
          refine (next_round (k + 1) (to_sel [0, 1, 9] 10 rfl rfl rfl rfl rfl ⟨(Le.refl _), ⟨(Le.refl _), ⟨(Le.refl _), ⟨(Le.refl _), ⟨(Le.refl _), ⟨(Le.refl _), ⟨(Le.refl _), ⟨(Le.refl _), trivial⟩⟩⟩⟩⟩⟩⟩⟩ ⟨⟨rfl, Nat.le_refl _, fun j hj => match j, hj with | 0, _ => (Le.refl _) | 1, _ => (Le.refl _) ⟩, ⟨trivial, ⟨⟨by first | rfl | (simp; done), by first | exact Nat.le_refl _ | (simp; omega), fun j hj => le_ren (by first | exact trivial | apply Go.Avm.Pack.below_clsL)⟩, trivial⟩⟩⟩) ?_ ?_)
          · omega
          · omega
        · have hk : k = (x.l.getD i default).l.length := by omega
          refine ⟨_, To.refl _, vcQ [] (lkL [(11, [3, 14, 15, 16])]) (fun _ => []) (fun (Q : AEx → St R.σ → Prop) => (-9223372036854775808 ≤ (↑i : Int) + 1 ∧ (↑i : Int) + 1 ≤ 9223372036854775807) ∧ Q AEx.normal (St.mk [(3, ow true 2 (List.length (preR x (List.length gl.l) i k)) 4), (14, encPacks x), (15, int i64 (↑(List.length x.l) : Int)), (16, int i64 ((↑i : Int) + 1))] [cells false 2 (nth [encPacks x, encR gl]), dead, cells false (List.length (preR x (List.length gl.l) i k) * 4) (clsL (preR x (List.length gl.l) i k))] g)) (fun _ => by kernel_rfl) ⟨(by omega), ?_⟩⟩
          refine (next_round (i + 1) (to_le ⟨(Le.of_eq ?_), ⟨(Le.refl _), ⟨(Le.refl _), ⟨(Le.of_eq (by kernel_rfl)), trivial⟩⟩⟩⟩ ⟨LeO.rflc, ⟨(LeO.dead _), ⟨?_, trivial⟩⟩⟩ rfl) ?_ ?_)
          · rw [preP_succ, ← hk]; rfl
          · rw [preP_succ, ← hk]; exact LeO.rflc
          · omega
          · omega
    · have e : i = x.l.length := by omega
      rw [e]
      refine ⟨_, To.refl _, vcQ [] (lkL [(12, [2])]) (fun _ => []) (fun (Q : AEx → St R.σ → Prop) => Q AEx.ret (St.mk [(2, ow true 2 (List.length (preP x (List.length gl.l) (List.length x.l))) 4)] [cells false 2 (nth [encPacks x, encR gl]), dead, cells false (List.length (preP x (List.length gl.l) (List.length x.l)) * 4) (clsL (preP x (List.length gl.l) (List.length x.l)))] g)) (fun _ => by kernel_rfl) (?_)⟩
      refine (retQ_le (retQ_take' 3 _ _ rfl trivial (by omega) (show 3 ≤ 3 by omega) ⟨(fun j hj => match j, hj with | 0, _ => trivial | 1, _ => trivial ), ⟨(fun _ _ => (by first | exact trivial | apply Go.Avm.Pack.below_clsL)), trivial⟩⟩ (by kernel_rfl) rfl rfl) (Le.of_eq (by kernel_rfl)))
theorem c_clauses (R : Res) (x : Ix) (gl : KL Rng) (g : R.σ) (hs : small x) (h : formedB x = true) (hg : gl.l.length ≤ 4) :
    Does Tryd.prog R 53 [encMkt x gl] [] g (.ret (.ow true 2 (clausesOf x gl.l).length 4)) [.dead, .dead, .cells false ((clausesOf x gl.l).length * 4) (clsL (clausesOf x gl.l))] g :=
  does_le (clauses_all R x gl g hs h hg) ⟨LeO.dead _, LeO.dead _, LeO.rflc, trivial⟩
end Go.Avm.Pack
namespace Go.Avm.Pack
open Go Go.Avm Go.Proofs
open Go.IntKind (i64 u64)
open Go.Avm.AV (int bool any fz fp sl ow ref fn ifc val agg tup)
open Go.Avm.AObj (cells dead)
open Go.Avm.Oc (ret)
set_option maxRecDepth 4000
end Go.Avm.Pack
