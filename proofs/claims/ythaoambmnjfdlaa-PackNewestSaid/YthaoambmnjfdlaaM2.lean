/- Part 2 of the proof: lemmas. -/
import Derived.Test.YthaoambmnjfdlaaM1
namespace Go.Avm
open Go Go.WideShapes Go.ChangeShapes
def belowAll (ev : Operand → AV) : List Operand → Prop
  | [] => True
  | x :: r => Below 0 (ev x) ∧ belowAll ev r
theorem belowAll_mem {ev : Operand → AV} : ∀ {l : List Operand}, belowAll ev l → ∀ x ∈ l, Below 0 (ev x)
  | [], _, x, hx => by cases hx
  | y :: r, h, x, hx => by
    rcases List.mem_cons.1 hx with rfl | hx
    · exact h.1
    · exact belowAll_mem h.2 x hx
def litShape : Option Out → Option (Nat × Nat)
  | some ⟨.sl 0 0 n m true es, [.cells false N _], [], _⟩ => bif Nat.beq n m && Nat.beq N (n * es) then some (n, es) else none
  | _ => none
def litGet : Option Out → Nat → AV
  | some ⟨_, [.cells _ _ get], _, _⟩ => get
  | _ => fun _ => .any
theorem opOk_litB {P : Program} {R : Res} {o : Oper} {ev : Operand → AV} {hp : List AObj} {g : R.σ} {n es : Nat} {x : AV} {k : Fz} {g' : Nat → Nat → AV} (h : litShape (runEff (tyOf P) [] ev .none o.op) = some (n, es)) (hops : belowAll ev o.op.operands.toList)
    (hx : x = .fz k es n g') (hk : leK .exa k n = true) (hg : ∀ i, i < n → ∀ j, j < es → litGet (runEff (tyOf P) [] ev .none o.op) (i * es + j) = g' i j) (hb : ∀ i, i < n → ∀ j, j < es → Below 0 (g' i j)) : OpOk P R o ev hp g x hp g := by
  obtain ⟨out, ho⟩ : ∃ out, out = runEff (tyOf P) [] ev .none o.op := ⟨_, rfl⟩
  rw [← ho] at h hg
  unfold litShape at h
  split at h
  · rename_i n' m es' N get tag
    cases hb1 : (Nat.beq n' m && Nat.beq N (n' * es')) with
    | false => rw [hb1] at h; cases h
    | true =>
      rw [hb1] at h
      simp only [cond_true, Option.some.injEq, Prod.mk.injEq] at h
      obtain ⟨rfl, rfl⟩ := h
      simp only [Bool.and_eq_true, Nat.beq_eq] at hb1
      obtain ⟨rfl, rfl⟩ := hb1
      have hg' : ∀ i, i < n' → ∀ j, j < es' → get (i * es' + j) = g' i j := hg
      refine opOk_lit ho.symm (Nat.le_refl _) (fun j hj => ?_) (fun y hy => belowAll_mem hops y (by simpa using hy)) (by rw [hx]; exact leK_ok hk (fun i j hi hj => by rw [← hg' i hi j hj, Nat.zero_add]))
      have hes : 0 < es' := by
        rcases Nat.eq_zero_or_pos es' with h0 | h0
        · rw [h0] at hj; simp at hj
        · exact h0
      have h1 : j / es' < n' := Nat.div_lt_of_lt_mul (by rw [Nat.mul_comm]; exact hj)
      have h2 : j % es' < es' := Nat.mod_lt _ hes
      have := hg' _ h1 _ h2
      rw [Nat.mul_comm, Nat.div_add_mod] at this
      rw [this]
      exact hb _ h1 _ h2
  · cases h
def memOf (W : World) : Mem := fun b => W.heap[b]?
theorem fmCell_memOf {W : World} {b j : Nat} {x : Value} (h : W.cell? ⟨b, j, none⟩ = some x) : fmCell (memOf W) b j = some x := by
  unfold World.cell? at h
  unfold fmCell memOf
  split at h
  · rename_i c e f hb
    rw [hb]
    simpa using h
  · cases h
def CellsR (W : World) (n : Nat) (get : Nat → AV) (cs : List Value) : Prop :=
  cs.length = n ∧ ∀ j, j < n → ∃ x, cs[j]? = some x ∧ x.oneCell' = true ∧ Den (memOf W) [] (get j) x
def Rea (P : Program) (t n : Nat) {α : Type} (Q : α → Prop) (enc : α → Nat → AV) : Prop :=
  ∀ (H : Type) (en : TypeId × Value → H) (W : World) (fuel : Nat) (cs : List Value) (x : DataW H × List MemPlace),
    DataW.trod en P W 0 (fun _ => true) true fuel t cs = some x → ∃ a, Q a ∧ CellsR W n (enc a) cs
section
variable {P : Program} {t : Nat}
theorem Rea.map {α β : Type} {n : Nat} {Q : α → Prop} {enc : α → Nat → AV} {Q' : β → Prop} {enc' : β → Nat → AV} (h : Rea P t n Q enc) (f : α → β) (hq : ∀ a, Q a → Q' (f a)) (he : ∀ a j, j < n → enc a j = enc' (f a) j) : Rea P t n Q' enc' := by
  intro H en W fuel cs x hx
  obtain ⟨a, h1, h2, h3⟩ := h H en W fuel cs x hx
  exact ⟨f a, hq a h1, h2, fun j hj => by rw [← he a j hj]; exact h3 j hj⟩
theorem cellsR_one {W : World} {v : Value} {g : Nat → AV} (h1 : v.oneCell' = true) (h2 : Den (memOf W) [] (g 0) v) : CellsR W 1 g [v] :=
  ⟨rfl, fun j hj => by
    have : j = 0 := by omega
    subst this
    exact ⟨v, rfl, h1, h2⟩⟩
theorem rd_int {k : IntKind} (ht : P.underlying t = some (.int k)) : Rea P t 1 (fun n : Int => (Lit.int k n).wf = true) (fun n _ => .int k n) := by
  intro H en W fuel cs x hx
  obtain ⟨n, rfl, _, hw⟩ := DataW.trod_int ht hx
  exact ⟨n, hw, cellsR_one rfl rfl⟩
def ReaF (P : Program) (fs : List Field) (o n : Nat) {α : Type} (Q : α → Prop) (enc : α → Nat → AV) : Prop :=
  ∀ (H : Type) (en : TypeId × Value → H) (W : World) (fuel : Nat) (cs : List Value),
    (∀ f ∈ fs, ∃ x : DataW H × List MemPlace, DataW.trod en P W 0 (fun _ => true) true fuel f.type ((cs.drop f.offset).take (P.cellsOf f.type)) = some x) →
    ∃ a, Q a ∧ ∀ j, j < n → ∃ x, cs[o + j]? = some x ∧ x.oneCell' = true ∧ Den (memOf W) [] (enc a j) x
theorem rdF_nil {o : Nat} : ReaF P [] o 0 (fun _ : Unit => True) (fun _ _ => .any) :=
  fun _ _ _ _ _ _ => ⟨(), trivial, fun j hj => absurd hj (by omega)⟩
theorem rdF_cons {α β : Type} {f : Field} {fs : List Field} {o m n : Nat} {Q : α → Prop} {enc : α → Nat → AV} {Q' : β → Prop} {enc' : β → Nat → AV}
    (ho : f.offset = o) (hm : P.cellsOf f.type = m) (h : Rea P f.type m Q enc) (h' : ReaF P fs (o + m) n Q' enc') :
    ReaF P (f :: fs) o (m + n) (fun x : α × β => Q x.1 ∧ Q' x.2) (fun x j => if j < m then enc x.1 j else enc' x.2 (j - m)) := by
  intro H en W fuel cs hx
  obtain ⟨x, hx1⟩ := hx f (by simp)
  obtain ⟨a, q1, l1, c1⟩ := h H en W fuel _ x hx1
  obtain ⟨b, q2, c2⟩ := h' H en W fuel cs (fun g hg => hx g (by simp [hg]))
  refine ⟨(a, b), ⟨q1, q2⟩, fun j hj => ?_⟩
  by_cases hjm : j < m
  · obtain ⟨y, y1, y2, y3⟩ := c1 j hjm
    refine ⟨y, ?_, y2, by show Den _ _ (if j < m then _ else _) _; rw [if_pos hjm]; exact y3⟩
    rw [hm, ho, List.getElem?_take, if_pos hjm, List.getElem?_drop] at y1
    exact y1
  · obtain ⟨y, y1, y2, y3⟩ := c2 (j - m) (by omega)
    exact ⟨y, by rw [← y1]; congr 1; omega, y2, by show Den _ _ (if j < m then _ else _) _; rw [if_neg hjm]; exact y3⟩
theorem rd_struct {α : Type} {fs : Array Field} {n : Nat} {Q : α → Prop} {enc : α → Nat → AV} (ht : P.underlying t = some (.struct fs)) (hn : P.cellsOf t = n) (h : ReaF P fs.toList 0 n Q enc) : Rea P t n Q enc := by
  intro H en W fuel cs x hx
  obtain ⟨xs, m, rfl, _, hl, hxs, hf⟩ := DataW.trod_struct ht hx
  obtain ⟨a, q, c⟩ := h H en W m cs (fun f hfm => by
    obtain ⟨i, hi, hif⟩ := List.getElem_of_mem hfm
    have h1 : i < fs.size := by simpa using hi
    have h2 : fs[i]? = some f := by simp [h1, ← hif]
    have := hf i f h2
    rw [List.getElem?_eq_getElem (by omega)] at this
    exact ⟨_, this⟩)
  exact ⟨a, q, by rw [hl, hn], fun j hj => by simpa using c j hj⟩
def QL {α : Type} (Q : α → Prop) (x : Fz × List α) : Prop := (∀ a ∈ x.2, Q a) ∧ x.2.length ≤ maxLen
theorem mapM_cells {W : World} {a : Addr} : ∀ {l : List Nat} {cs : List Value}, l.mapM (fun i => W.cell? (a.add i)) = some cs → ∀ i, i < l.length → W.cell? (a.add (l.getD i 0)) = cs[i]?
  | [], _, _, i, hi => by simp at hi
  | x :: r, cs, h, i, hi => by
    simp only [List.mapM_cons, Option.bind_eq_bind, Option.bind_eq_some_iff, Option.pure_def, Option.some.injEq] at h
    obtain ⟨y, h1, ys, h2, rfl⟩ := h
    cases i with
    | zero => simpa using h1
    | succ i => simpa using mapM_cells h2 i (by simpa using hi)
theorem cells_at {W : World} {base : Nat} {a : Addr} {n : Nat} {cs : List Value} (h : W.cells? base a n = some cs) {j : Nat} (hj : j < n) : W.cell? (a.add j) = cs[j]? := by
  unfold World.cells? at h
  split at h
  · have := mapM_cells h j (by simpa using hj)
    simpa [List.getD, hj] using this
  · cases h
theorem add_add (a : Addr) (i j : Nat) : (a.add i).add j = a.add (i + j) := by
  unfold Addr.add
  by_cases hi : i = 0
  · subst hi; simp
  · by_cases hj : j = 0
    · subst hj; simp
    · rw [if_neg hi, if_neg hj, if_neg (by omega), Nat.add_assoc]
theorem rd_slice {α : Type} [Inhabited α] {e n : Nat} {Q : α → Prop} {enc : α → Nat → AV} (ht : P.underlying t = some (.slice e)) (hc : P.cellsOf e = n) (hn : 0 < n) (h : Rea P e n Q enc) :
    Rea P t 1 (QL Q) (fun x _ => .fz x.1 n x.2.length (fun i => enc (x.2.getD i default))) := by
  intro H en W fuel cs x hx
  rcases DataW.trod_slice ht hx with ⟨rfl, _⟩ | ⟨a, len, cap, elems, rest, m, rfl, rfl, _, _, hlc, hcm, hel, hat, _, _⟩
  · refine ⟨(.nil, []), ⟨fun a ha => (by cases ha), Nat.zero_le _⟩, cellsR_one rfl ?_⟩
    exact ⟨fun _ => ⟨rfl, none, 0, rfl, rfl, rfl⟩, fun h => (by cases h)⟩
  · by_cases h0 : len = 0
    · subst h0
      refine ⟨(.may, []), ⟨fun a ha => (by cases ha), Nat.zero_le _⟩, cellsR_one rfl ?_⟩
      exact ⟨fun _ => ⟨rfl, some a, cap, rfl, fun h => (by cases h)⟩, fun h => (by cases h)⟩
    · have key : ∀ i, ∃ y : α, i < len → Q y ∧ ∀ j, j < n → ∃ x, W.cell? (a.add (i * n + j)) = some x ∧ x.oneCell' = true ∧ Den (memOf W) [] (enc y j) x := by
        intro i
        by_cases hi : i < len
        · have h1 := hat i hi
          rw [List.getElem?_eq_getElem (by omega), hc] at h1
          obtain ⟨ci, e1, e2⟩ := Option.bind_eq_some_iff.1 h1
          obtain ⟨y, q, l1, c1⟩ := h H en W m ci _ e2
          refine ⟨y, fun _ => ⟨q, fun j hj => ?_⟩⟩
          obtain ⟨x, x1, x2, x3⟩ := c1 j hj
          have := cells_at e1 hj
          rw [x1] at this
          refine ⟨x, ?_, x2, x3⟩
          rw [← this, add_add]
        · exact ⟨default, fun h => absurd h hi⟩
      let f : Nat → α := fun i => Classical.choose (key i)
      have hf : ∀ i, i < len → Q (f i) ∧ ∀ j, j < n → ∃ x, W.cell? (a.add (i * n + j)) = some x ∧ x.oneCell' = true ∧ Den (memOf W) [] (enc (f i) j) x := fun i => Classical.choose_spec (key i)
      have hll : ((List.range len).map f).length = len := by simp
      have hget : ∀ i, i < len → ((List.range len).map f).getD i default = f i := fun i hi => by simp [List.getD, hi]
      obtain ⟨b, off, sp⟩ := a
      have hsp : sp = none := by
        obtain ⟨x, x1, _⟩ := (hf 0 (by omega)).2 0 hn
        simpa [Addr.add] using World.cell?_spot x1
      subst hsp
      refine ⟨(.opn, (List.range len).map f), ⟨fun y hy => ?_, by simp only [hll]; omega⟩, cellsR_one rfl ?_⟩
      · obtain ⟨i, hi, rfl⟩ := List.mem_map.1 hy
        exact (hf i (by simpa using hi)).1
      · refine ⟨fun h => (by cases h), fun _ => ⟨b, off, cap, by rw [hll], by rw [hll]; exact hlc, fun h => (by rcases h with h | h <;> cases h), fun i j hi hj => ?_⟩⟩
        rw [hll] at hi
        obtain ⟨x, x1, x2, x3⟩ := (hf i hi).2 j hj
        refine ⟨x, fmCell_memOf (by rw [← x1, add_plain, Nat.add_assoc]), x2, ?_⟩
        show Den _ _ (enc (((List.range len).map f).getD i default) j) x
        rw [hget i hi]
        exact x3

def Arg (P : Program) (t : TypeId) {α : Type} (Q : α → Prop) (A : α → AV) : Prop :=
  ∀ (H : Type) (en : TypeId × Value → H) (W : World) (base : Nat) (v : Value) (d : DataW H) (ps : List MemPlace),
    Value.okWide P W .any base t v → DataW.Trod en P W 0 (fun _ => true) true t v d ps → ∃ a, Q a ∧ Den (memOf W) [] (A a) v
theorem cellsR_head {W : World} {g : Nat → AV} {v : Value} (h : CellsR W 1 g [v]) : Den (memOf W) [] (g 0) v := by
  obtain ⟨x, h1, _, h2⟩ := h.2 0 (by omega)
  simp at h1
  subst h1
  exact h2
theorem arg_slice {α : Type} {e : TypeId} {Q : α → Prop} {enc : α → Nat → AV} (ht : P.underlying t = some (.slice e)) (h : Rea P t 1 Q enc) : Arg P t Q (fun a => enc a 0) := by
  intro H en W base v d ps hok ⟨fuel, hx⟩
  obtain ⟨a, l, c, rfl⟩ := okWide_slice ht hok
  obtain ⟨y, q, hc⟩ := h H en W fuel _ _ hx
  exact ⟨y, q, cellsR_head hc⟩
theorem arg_struct {α : Type} {fs : Array Field} {n : Nat} {Q : α → Prop} {enc : α → Nat → AV} (ht : P.underlying t = some (.struct fs)) (h : Rea P t n Q enc) : Arg P t Q (fun a => .agg n (enc a)) := by
  intro H en W base v d ps hok ⟨fuel, hx⟩
  obtain ⟨cs, rfl, hcs⟩ := okWide_struct ht hok
  obtain ⟨y, q, hl, hc⟩ := h H en W fuel _ _ hx
  have hl' : cs.size = n := by simpa [Value.cells] using hl
  refine ⟨y, q, cs, rfl, hl', fun j hj => ?_⟩
  obtain ⟨x, h1, h2, h3⟩ := hc j hj
  have : cs.getD j undef = x := by
    have h1 : cs[j]? = some x := by simpa [Value.cells] using h1
    simp [Array.getD_eq_getD_getElem?, h1]
  rw [this]
  exact ⟨h2, h3⟩
def ArgsOk (P : Program) (ts : List TypeId) (X : List AV → Prop) : Prop :=
  ∀ (H : Type) (en : TypeId × Value → H) (W : World) (base : Nat) (vs : List Value) (ds : List (DataW H)) (ps : List MemPlace),
    (∀ (j : Nat) (t : TypeId) (v : Value), ts[j]? = some t → vs[j]? = some v → Value.okWide P W .any base t v) → DataW.TrodAll en P W 0 (fun _ => true) true ts vs ds ps →
    ∃ avs : List AV, X avs ∧ vs.length = avs.length ∧ ∀ i, i < avs.length → Den (memOf W) [] (nth avs i) (vs.getD i undef)
theorem args_nil : ArgsOk P [] (fun l => l = []) := by
  intro H en W base vs ds ps _ h
  obtain ⟨rfl, rfl, rfl⟩ := trodAll_nil h
  exact ⟨[], rfl, rfl, fun i hi => absurd hi (by simp)⟩
theorem args_cons {α : Type} {ts : List TypeId} {Q : α → Prop} {A : α → AV} {X : List AV → Prop} (h : Arg P t Q A) (h' : ArgsOk P ts X) : ArgsOk P (t :: ts) (fun l => ∃ a, Q a ∧ ∃ r, X r ∧ l = A a :: r) := by
  intro H en W base vs ds ps hok hT
  obtain ⟨v, vs', d, ds', p, q, rfl, rfl, rfl, h1, h2⟩ := trodAll_cons hT
  obtain ⟨a, qa, da⟩ := h H en W base v d p (hok 0 t v rfl rfl) h1
  obtain ⟨r, xr, lr, dr⟩ := h' H en W base vs' ds' q (fun j u w hu hw => hok (j + 1) u w hu hw) h2
  refine ⟨A a :: r, ⟨a, qa, r, xr, rfl⟩, by simp [lr], fun i hi => ?_⟩
  cases i with
  | zero => exact da
  | succ i => exact dr i (by simpa using hi)
end

section
variable {H : Type} {enc : TypeId × Value → H} {P : Program}
theorem post_of_below {f : Func} {s : ChangeSpec} {apart fresh handsOn again : Bool} {W W' : World} {args : Array Value} {v : Value} {ds gs : List (DataW H)} {before pa pv : List MemPlace}
    (hW : DataW.Whole enc P f.params.toList s.vars apart W args.toList ds gs before)
    (hres : ∀ (b : Nat) (sp : Nat → Bool) (hd : Bool), DataW.TrodAll enc P W' b sp hd f.resultTypes.toList (v.resultList f.resultTypes.size) (s.fn H (ds ++ gs)).results [])
    (hargs : ∀ sp : Nat → Bool, (∀ p ∈ before, sp p.block = true) → DataW.TrodAll enc P W' 0 sp true f.params.toList args.toList (s.fn H (ds ++ gs)).args pa)
    (hvars : ∀ sp : Nat → Bool, (∀ p ∈ before, sp p.block = true) → DataW.TrodVars enc P W' sp s.vars (s.fn H (ds ++ gs)).vars pv)
    (hps : before = pa ++ pv) (hb : RowKit.Below W.heap.size W W')
    (hok : ∀ (j : Nat) (t : TypeId) (r : Value), f.resultTypes[j]? = some t → (v.resultList f.resultTypes.size)[j]? = some r → Value.okWide P W' .any 0 t r) :
    s.post enc P f apart fresh handsOn again W args v W' := by
  have hlt : ∀ p ∈ before, p.block < W.heap.size := fun p hp => hW.lt p hp
  have hold : ∀ p ∈ before, (fun b => decide (b < W.heap.size)) p.block = true := fun p hp => by simpa using hlt p hp
  refine ⟨ds, gs, before, [], pa, pv, hW, hres _ _ _, hargs _ hold, hvars _ hold, World.keptBut_mono (fun p hp => ⟨hp, ?_⟩) (hb.frame (· ∈ before)), fun _ => ?_⟩
  · rw [hps, List.mem_append] at hp
    exact Or.inr hp
  · obtain ⟨_, _, _, _, _, hz, hn⟩ := hW
    refine ⟨hok, _, _, ([] ++ pa) ++ pv, ⟨[] ++ pa, pv, trodAll_append (hargs _ (fun _ _ => rfl)) (hres _ _ _), hvars _ (fun _ _ => rfl), rfl, ?_, ?_⟩, ?_⟩
    · intro b off hp
      have hin : MemPlace.cell b off ∈ before := by rw [hps]; simpa using hp
      rw [hb.frozen (hlt _ hin)]
      exact hz b off hin
    · intro ha
      have := hn ha
      rw [hps] at this
      simpa using this
    · intro p hp _
      rw [hps]
      simpa using hp
theorem same_below {W W' : World} (hb : RowKit.Below W.heap.size W W') {p : MemPlace} (hp : p.block < W.heap.size) : W.sameAt W' p := by
  cases p with
  | cell b off => exact hb.cell (p := ⟨b, off, none⟩) hp
  | map b => exact hb.block b hp
theorem trodAll_stays {W W' : World} {sp : Nat → Bool} (hl : laidOutB P = true) : ∀ {ts : List TypeId} {vs : List Value} {ds : List (DataW H)} {ps : List MemPlace},
    (∀ t ∈ ts, P.readableRec t = true ∧ t < P.types.size) → DataW.TrodAll enc P W 0 (fun _ => true) true ts vs ds ps → (∀ p ∈ ps, W.sameAt W' p) → (∀ p ∈ ps, sp p.block = true) → DataW.TrodAll enc P W' 0 sp true ts vs ds ps
  | [], _, _, _, _, h, _, _ => by
    obtain ⟨rfl, rfl, rfl⟩ := trodAll_nil h
    exact rfl
  | t :: ts, _, _, _, hr, h, h1, h2 => by
    obtain ⟨v, vs, d, ds, p, q, rfl, rfl, rfl, ⟨fuel, hx⟩, hT⟩ := trodAll_cons h
    obtain ⟨r1, r2⟩ := hr t (by simp)
    refine ⟨p, q, ⟨fuel, ?_⟩, trodAll_stays hl (fun u hu => hr u (by simp [hu])) hT (fun x hx => h1 x (by simp [hx])) (fun x hx => h2 x (by simp [hx])), rfl⟩
    exact DataW.trod_stays (kids_book hl r1) (book_sized r1) (fun h => by cases h) ⟨r2, book_self t⟩ hx (fun x hx => h1 x (by simp [hx])) (fun x hx => h2 x (by simp [hx]))
theorem law_returns {a : Assume} {C : Checked} {os : Os} {f : FuncId} {fn : Func} {s : ChangeSpec} {conds : List PathCond} {apart fresh handsOn again : Bool} {tb : TypeId} {X : List AV → Prop}
    (own : ownKnob C.prog.godebug = none) (started : os.Started) (noInit : C.prog.inits.idxOf? f = none) (hfn : C.prog.funcs[f]? = some fn)
    (witness : ∃ (w : World) (tape : Tape) (i : Input), w.os = os ∧ (w.forCall tape i).Shaped C.prog ∧ i.vars = [] ∧ Input.okWide C.prog (w.forCall tape i) .any w.heap.size f i ∧
      s.pre6 enc C.prog fn conds apart (w.forCall tape i).memory i.args ∧ a.holds C.prog (lone (Frame.enter C.prog f i.args .normal) [] (w.forCall tape i)))
    (hvars : s.vars = []) (hspec : ∀ ds : List (DataW H), ds.length = fn.params.size → s.fn H ds = { results := [.lit (.bool true)], args := ds })
    (hl : laidOutB C.prog = true) (hr : ∀ t ∈ fn.params.toList, C.prog.readableRec t = true ∧ t < C.prog.types.size)
    (hres : fn.resultTypes = #[tb]) (hb : C.prog.underlying tb = some .bool)
    (hargs : ArgsOk C.prog fn.params.toList X) (hdoes : ∀ avs, X avs → Does C.prog Res.none f avs [] () (.ret (.bool true)) [] ()) :
    ReturnsInHanded a C os f .any (s.pre6 enc C.prog fn conds apart) (s.post enc C.prog fn apart fresh handsOn again) := by
  refine returnsInHanded_of_change own started noInit hfn witness (fun W base args ds gs before hval hW _ _ => ?_)
  have hW' := hW
  obtain ⟨p, q, hA, hV, rfl, hz, hn⟩ := hW
  rw [hvars] at hV
  obtain ⟨rfl, rfl⟩ := trodVars_none hV
  obtain ⟨avs, hX, hlen, hden⟩ := hargs H enc W base args.toList ds p (fun j t v h1 h2 => hval j t v (by simpa using h1) (by simpa using h2)) hA
  have hlt : ∀ x ∈ p, x.block < W.heap.size := fun x hx => hW'.lt x (by simp [hx])
  have hdl : ds.length = fn.params.size := by
    have : ∀ {ts : List TypeId} {vs : List Value} {ds : List (DataW H)} {ps : List MemPlace}, DataW.TrodAll enc C.prog W 0 (fun _ => true) true ts vs ds ps → ds.length = ts.length := by
      intro ts
      induction ts with
      | nil =>
        intro vs ds ps h
        obtain ⟨_, rfl, _⟩ := trodAll_nil h
        rfl
      | cons t ts ih =>
        intro vs ds ps h
        obtain ⟨v, vs, d, ds, p, q, rfl, rfl, rfl, _, hT⟩ := trodAll_cons h
        simp [ih hT]
    have := this hA
    simpa using this
  have hok : Ok Res.none [] () (memOf W) [] W := ⟨⟨fun b o h => h, rfl, fun i p h => (by simp at h), fun i j p q h => (by simp at h)⟩, trivial, fun b h => absurd h (by simp [Res.none])⟩
  refine ((hdoes avs hX).h (memOf W) [] W args hok ⟨by simpa using hlen, fun i hi => by
    have := hden i hi
    simpa [List.getD, Array.getD_eq_getD_getElem?] using this⟩).mono fun e W' ⟨FM', ρ', ⟨v, he, hv⟩, _, hg⟩ => ⟨v, he, ?_⟩
  have hv : v = .bool true := hv
  subst hv
  have hbel : RowKit.Below W.heap.size W W' := ⟨hg.ext.os, hg.ext.tape, hg.ext.output, hg.ext.size, fun k hk => hg.ext.keep k hk (fun ⟨p, hp, _⟩ => by cases hp) (fun h => h)⟩
  have hsp : s.fn H (ds ++ []) = { results := [.lit (.bool true)], args := ds } := by rw [List.append_nil]; exact hspec ds hdl
  refine post_of_below (pa := p) (pv := []) hW' (fun b sp hd => ?_) (fun sp hs => ?_) (fun sp _ => ?_) rfl hbel (fun j t r h1 h2 => ?_)
  · rw [hsp, hres]
    exact ⟨[], [], ⟨1, by simp [DataW.trod, Value.cells, hb]⟩, rfl, rfl⟩
  · rw [hsp]
    exact trodAll_stays hl hr hA (fun x hx => same_below hbel (hlt x hx)) (fun x hx => hs x (by simp [hx]))
  · rw [hsp, hvars]
    exact rfl
  · rw [hres] at h1 h2
    have hj : j = 0 := by
      cases j with
      | zero => rfl
      | succ j => simp at h1
    subst hj
    simp at h1
    subst h1
    simp [Value.resultList] at h2
    subst h2
    simp [Value.okWide, hb, Cell.okWide, Cell.ok]
end
end Go.Avm
namespace Go.Avm
open Go
def appShape : Option Out → Option (Bool × Nat × Nat × Nat)
  | some ⟨.ow b 0 n es, [.cells false N _], _, _⟩ => some (b, n, es, N)
  | _ => none
def appOb : Option Out → List Prop
  | some r => r.ob
  | none => [False]
theorem opOk_app {P : Program} {R : Res} {o : Oper} {ev : Operand → AV} {hp : List AObj} {g : R.σ} {b : Bool} {x : AV} (n es N : Nat) (get : Nat → AV) (ob : List Prop) (h : appShape (runEff (tyOf P) [] ev .none o.op) = some (b, n, es, N)) (hget : litGet (runEff (tyOf P) [] ev .none o.op) = get) (hob' : appOb (runEff (tyOf P) [] ev .none o.op) = ob) (hob : AllP ob) (hops : belowAll ev o.op.operands.toList) (hN : n * es ≤ N)
    (hb : ∀ j, j < N → Below 0 (get j)) (hx : Le (.fz (bif b then .auto else .may) es n (fun i j => get (i * es + j))) x) : OpOk P R o ev hp g x hp g := by
  subst hget hob'
  obtain ⟨out, ho⟩ : ∃ out, out = runEff (tyOf P) [] ev .none o.op := ⟨_, rfl⟩
  rw [← ho] at h hob hb hx
  unfold appShape at h
  split at h
  · rename_i b' n' es' N' get ob tag
    simp only [Option.some.injEq, Prod.mk.injEq] at h
    obtain ⟨rfl, rfl, rfl, rfl⟩ := h
    refine opOk_any ?_ (fun y hy => belowAll_mem hops y (by simpa using hy))
    have h1 : OpOk P R o ev [] g (.ow b' 0 n' es') [.cells false N' get] g := opOk_eff ho.symm hob
    have ht : To R 0 ⟨[(0, .ow b' 0 n' es')], [.cells false N' get], g⟩ ⟨[(0, frzL [0] [.cells false N' get] (.ow b' 0 n' es'))], killO [0] [.cells false N' get], g⟩ := to_frzL [0] _ _ (by exact ⟨hb, hN, trivial⟩)
    have h2 := opOk_to h1 (To.trans ht (to_trunc 0 (Nat.le_refl _) [0] (s := ⟨[(0, frzL [0] [.cells false N' get] (.ow b' 0 n' es'))], killO [0] [.cells false N' get], g⟩) (by exact ⟨trivial, trivial⟩)))
    refine ⟨fun FM ρ w evc ok hop => ?_⟩
    obtain ⟨nx, w', FM', ρ', u, r1, r2, r3, r4, r5⟩ := h2.h FM ρ w evc ok hop
    exact ⟨nx, w', FM', ρ', u, r1, r2, hx _ _ _ r3, r4, r5⟩
  · cases h
end Go.Avm
namespace Go.Avm.Pack
open Go Go.Avm Go.Proofs
open Go.IntKind (i64 u64)
open Go.Avm.AV (int bool any fz fp sl ow ref fn ifc val agg tup)
open Go.Avm.AObj (cells dead)
open Go.Avm.Oc (ret)
set_option maxRecDepth 4000
structure Rng where
  pack : Int
  low : Int
  high : Int
  deriving Inhabited, DecidableEq
instance : Inhabited Fz := ⟨.nil⟩
structure KL (α : Type) where
  l : List α
  k : Fz
  deriving Inhabited
structure Rel where
  needs : KL Rng
  bars : KL Rng
  deriving Inhabited
abbrev Ix := KL (KL Rel)
def rngC (r : Rng) : Nat → AV := nth [.int .i64 r.pack, .int .i64 r.low, .int .i64 r.high]
def encRng (r : Rng) : AV := .agg 3 (nth [.int .i64 r.pack, .int .i64 r.low, .int .i64 r.high])
def encR (x : KL Rng) : AV := .fz x.k 3 x.l.length (fun i => rngC (x.l.getD i default))
def encI (x : KL Int) : AV := .fz x.k 1 x.l.length (fun i _ => .int .i64 (x.l.getD i 0))
def relC (r : Rel) : Nat → AV := nth [encR r.needs, encR r.bars]
def encRel (r : Rel) : AV := .agg 2 (nth [encR r.needs, encR r.bars])
def encRels (x : KL Rel) : AV := .fz x.k 2 x.l.length (fun i => relC (x.l.getD i default))
def encPacks (x : Ix) : AV := .fz x.k 1 x.l.length (fun i _ => encRels (x.l.getD i default))
def encIx (x : Ix) : AV := .agg 1 (nth [encPacks x])
def encMkt (x : Ix) (gl : KL Rng) : AV := .agg 2 (nth [encPacks x, encR gl])
def encPlan (p : Nat → Int) : AV := .agg 8 (fun j => .int .i64 (p j))
structure Clause where
  pack : Int
  rel : Int
  bar : Bool
  which : Int
  deriving Inhabited, DecidableEq
def clC (c : Clause) : Nat → AV := nth [.int .i64 c.pack, .int .i64 c.rel, .bool c.bar, .int .i64 c.which]
def encCl (c : Clause) : AV := .agg 4 (nth [.int .i64 c.pack, .int .i64 c.rel, .bool c.bar, .int .i64 c.which])
def encC (x : KL Clause) : AV := .fz x.k 4 x.l.length (fun i => clC (x.l.getD i default))
theorem below_encRng (r : Rng) : Below 0 (encRng r) := ⟨⟨⟨trivial, trivial⟩, trivial⟩, trivial⟩
theorem below_encCl (r : Clause) : Below 0 (encCl r) := ⟨⟨⟨⟨trivial, trivial⟩, trivial⟩, trivial⟩, trivial⟩
theorem below_encRel (r : Rel) : Below 0 (encRel r) := ⟨⟨trivial, trivial⟩, trivial⟩
theorem c_within (R : Res) (n lo hi : Int) (hp : List AObj) (g : R.σ) : Does Try.prog R 70 [.int .i64 n, .int .i64 lo, .int .i64 hi] hp g (.ret (.bool (decide (lo ≤ n ∧ n ≤ hi)))) hp g := by
  refine does_any' (fun R g => ?_) (by exact ⟨trivial, ⟨trivial, ⟨trivial, trivial⟩⟩⟩) R hp g
  refine spec_of_wp (nt := 15) (rs := [.tmp 6]) (k0 := 0) (by kernel_rfl) (by kernel_rfl) (by kernel_rfl) rfl ?_
  refine vcQ [] (lkL [(0, [0, 1, 2]), (1, [6])]) (fun _ => []) (fun (Q : AEx → St R.σ → Prop) => Q AEx.ret (St.mk [(6, AV.bool (bif decide (n ≥ lo) then decide (n ≤ hi) else false))] [] g)) (fun _ => by kernel_rfl) (?_)
  refine (retQ_le (retQ_same' _ _ rfl trivial rfl rfl rfl) (Le.of_eq ?_))
  show (AV.bool (bif decide (n ≥ lo) then decide (n ≤ hi) else false)) = _
  show AV.bool _ = _
  by_cases h : lo ≤ n <;> simp [h]
theorem c_in (R : Res) (n lo hi : Int) (hp : List AObj) (g : R.σ) : Does Try.prog R 50 [.int .i64 n, .int .i64 lo, .int .i64 hi] hp g (.ret (.bool (decide (lo ≤ n ∧ n ≤ hi)))) hp g := by
  refine does_any' (fun R g => ?_) (by exact ⟨trivial, ⟨trivial, ⟨trivial, trivial⟩⟩⟩) R hp g
  refine spec_of_wp (nt := 15) (rs := [.tmp 6]) (k0 := 0) (by kernel_rfl) (by kernel_rfl) (by kernel_rfl) rfl ?_
  refine vcQ [] (lkL [(0, [0, 1, 2]), (1, [6])]) (fun _ => []) (fun (Q : AEx → St R.σ → Prop) => Q AEx.ret (St.mk [(6, AV.bool (bif decide (n ≥ lo) then decide (n ≤ hi) else false))] [] g)) (fun _ => by kernel_rfl) (?_)
  refine (retQ_le (retQ_same' _ _ rfl trivial rfl rfl rfl) (Le.of_eq ?_))
  show (AV.bool (bif decide (n ≥ lo) then decide (n ≤ hi) else false)) = _
  show AV.bool _ = _
  by_cases h : lo ≤ n <;> simp [h]
end Go.Avm.Pack
namespace Go.Avm.Pack
open Go Go.Avm Go.Proofs
open Go.IntKind (i64 u64)
open Go.Avm.AV (int bool any fz fp sl ow ref fn ifc val agg tup)
open Go.Avm.AObj (cells dead)
open Go.Avm.Oc (ret)
set_option maxRecDepth 4000
def idxFrom {α : Type} (q : α → Bool) : List α → Nat → Int
  | [], _ => -1
  | x :: r, i => if q x then i else idxFrom q r (i + 1)
theorem idxFrom_any {α : Type} (q : α → Bool) : ∀ (l : List α) (i : Nat), decide (idxFrom q l i ≥ 0) = l.any q := by
  intro l
  induction l with
  | nil => intro i; simp [idxFrom]
  | cons x r ih =>
    intro i
    unfold idxFrom
    cases hq : q x with
    | true => simp [hq]
    | false => simp only [List.any_cons, hq, Bool.false_or]; exact ih (i + 1)
theorem getD_drop {α : Type} (l : List α) (d : α) {i : Nat} (h : i < l.length) : l.drop i = l.getD i d :: l.drop (i + 1) := by
  rw [List.drop_eq_getElem_cons h]
  simp [List.getD, h]
theorem getD_mem {α : Type} (l : List α) (d : α) {i : Nat} (h : i < l.length) : l.getD i d ∈ l := by
  simp [List.getD, h]
theorem c_IndexFunc_PackRange (R : Res) (l : KL Rng) (u : Value) (q : Rng → Bool) (g : R.σ) (hl : l.l.length < 1000000)
    (hu : ∀ r, r ∈ l.l → ∀ hp, VDoes Try.prog R u [encRng r] hp g (.ret (.bool (q r))) hp g) :
    Does Try.prog R 90 [encR l, .val u] [] g (.ret (.int .i64 (idxFrom q l.l 0))) [] g := by
  refine spec_of_wp (nt := 19) (rs := [.tmp 4]) (k0 := 0) (by kernel_rfl) (by kernel_rfl) (by kernel_rfl) rfl ?_
  refine vcQ [] (lkL [(0, [0, 1]), (1, [0, 1, 7, 8])]) (fun _ => []) (fun (Q : AEx → St R.σ → Prop) => Wp Try.prog R 19 0 Rd.top (bodyOf Try.prog 90) [1, 0, 1, 0] (contQ Try.prog R 19 0 Rd.top (bodyOf Try.prog 90) Q [Kont.blk 0, Kont.seq [1, 1]]) (St.mk [(0, encR l), (1, val u), (7, int i64 (↑(List.length l.l) : Int)), (8, int i64 0)] [] g)) (fun _ => by kernel_rfl) (?_)
  refine (wp_loop (by kernel_rfl) (fun (i : Nat) => ⟨[(0, encR l), (1, val u), (7, int i64 (↑(List.length l.l) : Int)), (8, .int .i64 (i : Int))], [], g⟩) (fun (i : Nat) => (i ≤ l.l.length ∧ idxFrom q l.l 0 = idxFrom q (l.l.drop i) i)) (fun (i : Nat) => (l.l.length - i)) 0 (to_fr ⟨(Le.refl _), ⟨(Le.refl _), ⟨(Le.refl _), ⟨(Le.of_eq (by kernel_rfl)), trivial⟩⟩⟩⟩ rfl rfl) ?_ (fun i hi => ?_))
  · exact ⟨Nat.zero_le _, rfl⟩
  · obtain ⟨h1, h2⟩ := hi
    refine vcQ [] (lkL [(2, [0, 1, 7, 8, 9]), (3, [0, 1, 5, 7, 8]), (4, [0, 1, 5, 7, 8, 16]), (5, [4]), (6, [0, 1, 7, 8])]) (lkL [(4, [(5, ROrc.kcall (AV.bool (q (List.getD l.l i default))))])]) (fun (Q : AEx → St R.σ → Prop) => (decide ((↑i : Int) < (↑(List.length l.l) : Int)) = true → (0 ≤ (↑i : Int) ∧ (↑i : Int) < (↑(List.length l.l) : Int)) ∧ 3 ≤ 3 ∧ VDoes Try.prog R u [encRng (List.getD l.l i default)] [] g (ret (AV.bool (q (List.getD l.l i default)))) [] g ∧ (q (List.getD l.l i default) = true → Q AEx.ret (St.mk [(4, int i64 (↑i : Int))] [] g)) ∧ (q (List.getD l.l i default) = false → (-9223372036854775808 ≤ (↑i : Int) + 1 ∧ (↑i : Int) + 1 ≤ 9223372036854775807) ∧ Q AEx.normal (St.mk [(0, encR l), (1, val u), (7, int i64 (↑(List.length l.l) : Int)), (8, int i64 ((↑i : Int) + 1))] [] g))) ∧ (decide ((↑i : Int) < (↑(List.length l.l) : Int)) = false → Q (AEx.exit 0) (St.mk [(0, encR l), (1, val u), (7, int i64 (↑(List.length l.l) : Int)), (8, int i64 (↑i : Int)), (9, AV.bool (decide ((↑i : Int) < (↑(List.length l.l) : Int))))] [] g))) (fun _ => by kernel_rfl) ⟨fun c1 => have c1 : (↑i : Int) < (↑(List.length l.l) : Int) := (of_decide_eq_true c1); ⟨(by omega), ⟨(by omega), ⟨(hu _ ?_ _), ⟨fun c2 => ?_, fun c2 => ⟨(by omega), ?_⟩⟩⟩⟩⟩, fun c1 => have c1 : ¬(↑i : Int) < (↑(List.length l.l) : Int) := (of_decide_eq_false c1); ?_⟩
    · exact getD_mem l.l default (by omega)
    · refine ⟨_, To.refl _, (retQ_le (retQ_same' _ _ rfl trivial rfl rfl rfl) (Le.of_eq ?_))⟩
      show (int i64 (↑i : Int)) = _
      show AV.int _ _ = AV.int _ _
      rw [h2, getD_drop l.l default (by omega)]; unfold idxFrom; rw [if_pos c2]
    · refine (next_round (i + 1) (to_fr ⟨(Le.refl _), ⟨(Le.refl _), ⟨(Le.refl _), ⟨(Le.of_eq (by kernel_rfl)), trivial⟩⟩⟩⟩ rfl rfl) ?_ ?_)
      · refine ⟨by omega, ?_⟩
        rw [h2, getD_drop l.l default (by omega)]; conv => lhs; unfold idxFrom
        rw [c2]; rfl
      · omega
    · refine ⟨_, To.refl _, vcQ [] (lkL [(7, [4])]) (fun _ => []) (fun (Q : AEx → St R.σ → Prop) => Q AEx.ret (St.mk [(4, int i64 (-1))] [] g)) (fun _ => by kernel_rfl) (?_)⟩
      refine (retQ_le (retQ_same' _ _ rfl trivial rfl rfl rfl) (Le.of_eq ?_))
      show (int i64 (-1)) = _
      show AV.int _ _ = AV.int _ _
      rw [h2, List.drop_eq_nil_of_le (by omega)]; rfl
theorem c_ContainsFunc_PackRange (R : Res) (l : KL Rng) (u : Value) (q : Rng → Bool) (g : R.σ) (hl : l.l.length < 1000000)
    (hu : ∀ r, r ∈ l.l → ∀ hp, VDoes Try.prog R u [encRng r] hp g (.ret (.bool (q r))) hp g) :
    Does Try.prog R 74 [encR l, .val u] [] g (.ret (.bool (l.l.any q))) [] g := by
  refine spec_of_wp (nt := 9) (rs := [.tmp 4]) (k0 := 0) (by kernel_rfl) (by kernel_rfl) (by kernel_rfl) rfl ?_
  refine vcQ [] (lkL [(0, [0, 1]), (1, [4])]) (lkL [(1, [(2, ROrc.kcall (int i64 (idxFrom q l.l 0)))])]) (fun (Q : AEx → St R.σ → Prop) => (true = true ∧ Does Try.prog R 90 [encR l, val u] [] g (ret (int i64 (idxFrom q l.l 0))) [] g) ∧ Q AEx.ret (St.mk [(4, AV.bool (decide (idxFrom q l.l 0 ≥ 0)))] [] g)) (fun _ => by kernel_rfl) ⟨⟨rfl, (Go.Avm.Pack.c_IndexFunc_PackRange _ _ _ _ _ (by omega) (fun _ _ _ => hu _ (by omega) _))⟩, ?_⟩
  refine (retQ_le (retQ_same' _ _ rfl trivial rfl rfl rfl) (Le.of_eq ?_))
  show (AV.bool (decide (idxFrom q l.l 0 ≥ 0))) = _
  show AV.bool _ = AV.bool _
  rw [idxFrom_any]
theorem c_ContainsFuncF_PackRange (R : Res) (l : KL Rng) (f na nb : Nat) (a b : Nat → AV) (q : Rng → Bool) (hp : List AObj) (g : R.σ) (hl : l.l.length < 1000000) (hpl : isPlain Try.prog f = true)
    (h : ∀ r, r ∈ l.l → Does Try.prog R f (tab na 0 a ++ [encRng r] ++ tab nb 0 b) hp g (.ret (.bool (q r))) hp g) :
    Does Try.prog R 74 [encR l, .fn f na a nb b] hp g (.ret (.bool (l.l.any q))) hp g :=
  does_fn (pre := [encR l]) (D := fun r => r ∈ l.l) (args := fun r => [encRng r]) (oc1 := fun r => .ret (.bool (q r))) ⟨trivial, trivial⟩ hpl (fun r => ⟨below_encRng r, trivial⟩) (fun _ => trivial) h
    (fun R' g' u hu => c_ContainsFunc_PackRange R' l u q g' hl hu)
theorem c_IndexFunc_PackRelease (R : Res) (l : KL Rel) (u : Value) (q : Rel → Bool) (g : R.σ) (hl : l.l.length < 1000000)
    (hu : ∀ r, r ∈ l.l → ∀ hp, VDoes Try.prog R u [encRel r] hp g (.ret (.bool (q r))) hp g) :
    Does Try.prog R 97 [encRels l, .val u] [] g (.ret (.int .i64 (idxFrom q l.l 0))) [] g := by
  refine spec_of_wp (nt := 19) (rs := [.tmp 4]) (k0 := 0) (by kernel_rfl) (by kernel_rfl) (by kernel_rfl) rfl ?_
  refine vcQ [] (lkL [(0, [0, 1]), (1, [0, 1, 7, 8])]) (fun _ => []) (fun (Q : AEx → St R.σ → Prop) => Wp Try.prog R 19 0 Rd.top (bodyOf Try.prog 97) [1, 0, 1, 0] (contQ Try.prog R 19 0 Rd.top (bodyOf Try.prog 97) Q [Kont.blk 0, Kont.seq [1, 1]]) (St.mk [(0, encRels l), (1, val u), (7, int i64 (↑(List.length l.l) : Int)), (8, int i64 0)] [] g)) (fun _ => by kernel_rfl) (?_)
  refine (wp_loop (by kernel_rfl) (fun (i : Nat) => ⟨[(0, encRels l), (1, val u), (7, int i64 (↑(List.length l.l) : Int)), (8, .int .i64 (i : Int))], [], g⟩) (fun (i : Nat) => (i ≤ l.l.length ∧ idxFrom q l.l 0 = idxFrom q (l.l.drop i) i)) (fun (i : Nat) => (l.l.length - i)) 0 (to_fr ⟨(Le.refl _), ⟨(Le.refl _), ⟨(Le.refl _), ⟨(Le.of_eq (by kernel_rfl)), trivial⟩⟩⟩⟩ rfl rfl) ?_ (fun i hi => ?_))
  · exact ⟨Nat.zero_le _, rfl⟩
  · obtain ⟨h1, h2⟩ := hi
    refine vcQ [] (lkL [(2, [0, 1, 7, 8, 9]), (3, [0, 1, 5, 7, 8]), (4, [0, 1, 5, 7, 8, 16]), (5, [4]), (6, [0, 1, 7, 8])]) (lkL [(4, [(5, ROrc.kcall (AV.bool (q (List.getD l.l i default))))])]) (fun (Q : AEx → St R.σ → Prop) => (decide ((↑i : Int) < (↑(List.length l.l) : Int)) = true → (0 ≤ (↑i : Int) ∧ (↑i : Int) < (↑(List.length l.l) : Int)) ∧ 2 ≤ 2 ∧ VDoes Try.prog R u [encRel (List.getD l.l i default)] [] g (ret (AV.bool (q (List.getD l.l i default)))) [] g ∧ (q (List.getD l.l i default) = true → Q AEx.ret (St.mk [(4, int i64 (↑i : Int))] [] g)) ∧ (q (List.getD l.l i default) = false → (-9223372036854775808 ≤ (↑i : Int) + 1 ∧ (↑i : Int) + 1 ≤ 9223372036854775807) ∧ Q AEx.normal (St.mk [(0, encRels l), (1, val u), (7, int i64 (↑(List.length l.l) : Int)), (8, int i64 ((↑i : Int) + 1))] [] g))) ∧ (decide ((↑i : Int) < (↑(List.length l.l) : Int)) = false → Q (AEx.exit 0) (St.mk [(0, encRels l), (1, val u), (7, int i64 (↑(List.length l.l) : Int)), (8, int i64 (↑i : Int)), (9, AV.bool (decide ((↑i : Int) < (↑(List.length l.l) : Int))))] [] g))) (fun _ => by kernel_rfl) ⟨fun c1 => have c1 : (↑i : Int) < (↑(List.length l.l) : Int) := (of_decide_eq_true c1); ⟨(by omega), ⟨(by omega), ⟨(hu _ ?_ _), ⟨fun c2 => ?_, fun c2 => ⟨(by omega), ?_⟩⟩⟩⟩⟩, fun c1 => have c1 : ¬(↑i : Int) < (↑(List.length l.l) : Int) := (of_decide_eq_false c1); ?_⟩
    · exact getD_mem l.l default (by omega)
    · refine ⟨_, To.refl _, (retQ_le (retQ_same' _ _ rfl trivial rfl rfl rfl) (Le.of_eq ?_))⟩
      show (int i64 (↑i : Int)) = _
      show AV.int _ _ = AV.int _ _
      rw [h2, getD_drop l.l default (by omega)]; unfold idxFrom; rw [if_pos c2]
    · refine (next_round (i + 1) (to_fr ⟨(Le.refl _), ⟨(Le.refl _), ⟨(Le.refl _), ⟨(Le.of_eq (by kernel_rfl)), trivial⟩⟩⟩⟩ rfl rfl) ?_ ?_)
      · refine ⟨by omega, ?_⟩
        rw [h2, getD_drop l.l default (by omega)]; conv => lhs; unfold idxFrom
        rw [c2]; rfl
      · omega
    · refine ⟨_, To.refl _, vcQ [] (lkL [(7, [4])]) (fun _ => []) (fun (Q : AEx → St R.σ → Prop) => Q AEx.ret (St.mk [(4, int i64 (-1))] [] g)) (fun _ => by kernel_rfl) (?_)⟩
      refine (retQ_le (retQ_same' _ _ rfl trivial rfl rfl rfl) (Le.of_eq ?_))
      show (int i64 (-1)) = _
      show AV.int _ _ = AV.int _ _
      rw [h2, List.drop_eq_nil_of_le (by omega)]; rfl
theorem c_ContainsFunc_PackRelease (R : Res) (l : KL Rel) (u : Value) (q : Rel → Bool) (g : R.σ) (hl : l.l.length < 1000000)
    (hu : ∀ r, r ∈ l.l → ∀ hp, VDoes Try.prog R u [encRel r] hp g (.ret (.bool (q r))) hp g) :
    Does Try.prog R 88 [encRels l, .val u] [] g (.ret (.bool (l.l.any q))) [] g := by
  refine spec_of_wp (nt := 9) (rs := [.tmp 4]) (k0 := 0) (by kernel_rfl) (by kernel_rfl) (by kernel_rfl) rfl ?_
  refine vcQ [] (lkL [(0, [0, 1]), (1, [4])]) (lkL [(1, [(2, ROrc.kcall (int i64 (idxFrom q l.l 0)))])]) (fun (Q : AEx → St R.σ → Prop) => (true = true ∧ Does Try.prog R 97 [encRels l, val u] [] g (ret (int i64 (idxFrom q l.l 0))) [] g) ∧ Q AEx.ret (St.mk [(4, AV.bool (decide (idxFrom q l.l 0 ≥ 0)))] [] g)) (fun _ => by kernel_rfl) ⟨⟨rfl, (Go.Avm.Pack.c_IndexFunc_PackRelease _ _ _ _ _ (by omega) (fun _ _ _ => hu _ (by omega) _))⟩, ?_⟩
  refine (retQ_le (retQ_same' _ _ rfl trivial rfl rfl rfl) (Le.of_eq ?_))
  show (AV.bool (decide (idxFrom q l.l 0 ≥ 0))) = _
  show AV.bool _ = AV.bool _
  rw [idxFrom_any]
theorem c_ContainsFuncF_PackRelease (R : Res) (l : KL Rel) (f na nb : Nat) (a b : Nat → AV) (q : Rel → Bool) (hp : List AObj) (g : R.σ) (hl : l.l.length < 1000000) (hpl : isPlain Try.prog f = true)
    (h : ∀ r, r ∈ l.l → Does Try.prog R f (tab na 0 a ++ [encRel r] ++ tab nb 0 b) hp g (.ret (.bool (q r))) hp g) :
    Does Try.prog R 88 [encRels l, .fn f na a nb b] hp g (.ret (.bool (l.l.any q))) hp g :=
  does_fn (pre := [encRels l]) (D := fun r => r ∈ l.l) (args := fun r => [encRel r]) (oc1 := fun r => .ret (.bool (q r))) ⟨trivial, trivial⟩ hpl (fun r => ⟨below_encRel r, trivial⟩) (fun _ => trivial) h
    (fun R' g' u hu => c_ContainsFunc_PackRelease R' l u q g' hl hu)
theorem c_IndexFunc_PackClause (R : Res) (l : KL Clause) (u : Value) (q : Clause → Bool) (g : R.σ) (hl : l.l.length < 1000000)
    (hu : ∀ r, r ∈ l.l → ∀ hp, VDoes Try.prog R u [encCl r] hp g (.ret (.bool (q r))) hp g) :
    Does Try.prog R 95 [encC l, .val u] [] g (.ret (.int .i64 (idxFrom q l.l 0))) [] g := by
  refine spec_of_wp (nt := 19) (rs := [.tmp 4]) (k0 := 0) (by kernel_rfl) (by kernel_rfl) (by kernel_rfl) rfl ?_
  refine vcQ [] (lkL [(0, [0, 1]), (1, [0, 1, 7, 8])]) (fun _ => []) (fun (Q : AEx → St R.σ → Prop) => Wp Try.prog R 19 0 Rd.top (bodyOf Try.prog 95) [1, 0, 1, 0] (contQ Try.prog R 19 0 Rd.top (bodyOf Try.prog 95) Q [Kont.blk 0, Kont.seq [1, 1]]) (St.mk [(0, encC l), (1, val u), (7, int i64 (↑(List.length l.l) : Int)), (8, int i64 0)] [] g)) (fun _ => by kernel_rfl) (?_)
  refine (wp_loop (by kernel_rfl) (fun (i : Nat) => ⟨[(0, encC l), (1, val u), (7, int i64 (↑(List.length l.l) : Int)), (8, .int .i64 (i : Int))], [], g⟩) (fun (i : Nat) => (i ≤ l.l.length ∧ idxFrom q l.l 0 = idxFrom q (l.l.drop i) i)) (fun (i : Nat) => (l.l.length - i)) 0 (to_fr ⟨(Le.refl _), ⟨(Le.refl _), ⟨(Le.refl _), ⟨(Le.of_eq (by kernel_rfl)), trivial⟩⟩⟩⟩ rfl rfl) ?_ (fun i hi => ?_))
  · exact ⟨Nat.zero_le _, rfl⟩
  · obtain ⟨h1, h2⟩ := hi
    refine vcQ [] (lkL [(2, [0, 1, 7, 8, 9]), (3, [0, 1, 5, 7, 8]), (4, [0, 1, 5, 7, 8, 16]), (5, [4]), (6, [0, 1, 7, 8])]) (lkL [(4, [(5, ROrc.kcall (AV.bool (q (List.getD l.l i default))))])]) (fun (Q : AEx → St R.σ → Prop) => (decide ((↑i : Int) < (↑(List.length l.l) : Int)) = true → (0 ≤ (↑i : Int) ∧ (↑i : Int) < (↑(List.length l.l) : Int)) ∧ 4 ≤ 4 ∧ VDoes Try.prog R u [encCl (List.getD l.l i default)] [] g (ret (AV.bool (q (List.getD l.l i default)))) [] g ∧ (q (List.getD l.l i default) = true → Q AEx.ret (St.mk [(4, int i64 (↑i : Int))] [] g)) ∧ (q (List.getD l.l i default) = false → (-9223372036854775808 ≤ (↑i : Int) + 1 ∧ (↑i : Int) + 1 ≤ 9223372036854775807) ∧ Q AEx.normal (St.mk [(0, encC l), (1, val u), (7, int i64 (↑(List.length l.l) : Int)), (8, int i64 ((↑i : Int) + 1))] [] g))) ∧ (decide ((↑i : Int) < (↑(List.length l.l) : Int)) = false → Q (AEx.exit 0) (St.mk [(0, encC l), (1, val u), (7, int i64 (↑(List.length l.l) : Int)), (8, int i64 (↑i : Int)), (9, AV.bool (decide ((↑i : Int) < (↑(List.length l.l) : Int))))] [] g))) (fun _ => by kernel_rfl) ⟨fun c1 => have c1 : (↑i : Int) < (↑(List.length l.l) : Int) := (of_decide_eq_true c1); ⟨(by omega), ⟨(by omega), ⟨(hu _ ?_ _), ⟨fun c2 => ?_, fun c2 => ⟨(by omega), ?_⟩⟩⟩⟩⟩, fun c1 => have c1 : ¬(↑i : Int) < (↑(List.length l.l) : Int) := (of_decide_eq_false c1); ?_⟩
    · exact getD_mem l.l default (by omega)
    · refine ⟨_, To.refl _, (retQ_le (retQ_same' _ _ rfl trivial rfl rfl rfl) (Le.of_eq ?_))⟩
      show (int i64 (↑i : Int)) = _
      show AV.int _ _ = AV.int _ _
      rw [h2, getD_drop l.l default (by omega)]; unfold idxFrom; rw [if_pos c2]
    · refine (next_round (i + 1) (to_fr ⟨(Le.refl _), ⟨(Le.refl _), ⟨(Le.refl _), ⟨(Le.of_eq (by kernel_rfl)), trivial⟩⟩⟩⟩ rfl rfl) ?_ ?_)
      · refine ⟨by omega, ?_⟩
        rw [h2, getD_drop l.l default (by omega)]; conv => lhs; unfold idxFrom
        rw [c2]; rfl
      · omega
    · refine ⟨_, To.refl _, vcQ [] (lkL [(7, [4])]) (fun _ => []) (fun (Q : AEx → St R.σ → Prop) => Q AEx.ret (St.mk [(4, int i64 (-1))] [] g)) (fun _ => by kernel_rfl) (?_)⟩
      refine (retQ_le (retQ_same' _ _ rfl trivial rfl rfl rfl) (Le.of_eq ?_))
      show (int i64 (-1)) = _
      show AV.int _ _ = AV.int _ _
      rw [h2, List.drop_eq_nil_of_le (by omega)]; rfl
theorem c_ContainsFunc_PackClause (R : Res) (l : KL Clause) (u : Value) (q : Clause → Bool) (g : R.σ) (hl : l.l.length < 1000000)
    (hu : ∀ r, r ∈ l.l → ∀ hp, VDoes Try.prog R u [encCl r] hp g (.ret (.bool (q r))) hp g) :
    Does Try.prog R 80 [encC l, .val u] [] g (.ret (.bool (l.l.any q))) [] g := by
  refine spec_of_wp (nt := 9) (rs := [.tmp 4]) (k0 := 0) (by kernel_rfl) (by kernel_rfl) (by kernel_rfl) rfl ?_
  refine vcQ [] (lkL [(0, [0, 1]), (1, [4])]) (lkL [(1, [(2, ROrc.kcall (int i64 (idxFrom q l.l 0)))])]) (fun (Q : AEx → St R.σ → Prop) => (true = true ∧ Does Try.prog R 95 [encC l, val u] [] g (ret (int i64 (idxFrom q l.l 0))) [] g) ∧ Q AEx.ret (St.mk [(4, AV.bool (decide (idxFrom q l.l 0 ≥ 0)))] [] g)) (fun _ => by kernel_rfl) ⟨⟨rfl, (Go.Avm.Pack.c_IndexFunc_PackClause _ _ _ _ _ (by omega) (fun _ _ _ => hu _ (by omega) _))⟩, ?_⟩
  refine (retQ_le (retQ_same' _ _ rfl trivial rfl rfl rfl) (Le.of_eq ?_))
  show (AV.bool (decide (idxFrom q l.l 0 ≥ 0))) = _
  show AV.bool _ = AV.bool _
  rw [idxFrom_any]
theorem c_ContainsFuncF_PackClause (R : Res) (l : KL Clause) (f na nb : Nat) (a b : Nat → AV) (q : Clause → Bool) (hp : List AObj) (g : R.σ) (hl : l.l.length < 1000000) (hpl : isPlain Try.prog f = true)
    (h : ∀ r, r ∈ l.l → Does Try.prog R f (tab na 0 a ++ [encCl r] ++ tab nb 0 b) hp g (.ret (.bool (q r))) hp g) :
    Does Try.prog R 80 [encC l, .fn f na a nb b] hp g (.ret (.bool (l.l.any q))) hp g :=
  does_fn (pre := [encC l]) (D := fun r => r ∈ l.l) (args := fun r => [encCl r]) (oc1 := fun r => .ret (.bool (q r))) ⟨trivial, trivial⟩ hpl (fun r => ⟨below_encCl r, trivial⟩) (fun _ => trivial) h
    (fun R' g' u hu => c_ContainsFunc_PackClause R' l u q g' hl hu)
theorem c_every1_PackRange (R : Res) (r : Rng) (u : Value) (b : Bool) (g : R.σ) (hu : ∀ hp, VDoes Try.prog R u [encRng r] hp g (.ret (.bool b)) hp g) :
    Does Try.prog R 75 [encRng r, .ref 0 0] [.cells false 1 (fun _ => .val u)] g (.ret (.bool (!b))) [.cells false 1 (fun _ => .val u)] g := by
  refine spec_of_wp (nt := 8) (rs := [.tmp 3]) (k0 := 1) (by kernel_rfl) (by kernel_rfl) (by kernel_rfl) rfl ?_
  refine vcQ [] (lkL [(0, [1, 2]), (1, [3])]) (lkL [(1, [(2, ROrc.kcall (AV.bool b))])]) (fun (Q : AEx → St R.σ → Prop) => 1 ≤ 1 ∧ 3 ≤ 3 ∧ VDoes Try.prog R u [encRng r] [cells false 1 fun (x : Nat) => val u, cells false 3 (nth [int i64 r.pack, int i64 r.low, int i64 r.high])] g (ret (AV.bool b)) [cells false 1 fun (x : Nat) => val u, cells false 3 (nth [int i64 r.pack, int i64 r.low, int i64 r.high])] g ∧ Q AEx.ret (St.mk [(3, AV.bool !b)] [cells false 1 fun (x : Nat) => val u, cells false 3 (nth [int i64 r.pack, int i64 r.low, int i64 r.high])] g)) (fun _ => by kernel_rfl) ⟨(by omega), ⟨(by omega), ⟨(hu _), ?_⟩⟩⟩
  refine (retQ_le (retQ_take' 1 _ _ rfl trivial (by omega) trivial ⟨(fun j hj => match j, hj with | 0, _ => trivial ), trivial⟩ (by kernel_rfl) rfl rfl) (Le.refl _))
theorem c_every_PackRange (R : Res) (l : KL Rng) (u : Value) (q : Rng → Bool) (g : R.σ) (hl : l.l.length < 1000000)
    (hu : ∀ r, r ∈ l.l → ∀ hp, VDoes Try.prog R u [encRng r] hp g (.ret (.bool (q r))) hp g) :
    Does Try.prog R 44 [encR l, .val u] [] g (.ret (.bool (l.l.all q))) [] g := by
  refine spec_of_wp (nt := 9) (rs := [.tmp 4]) (k0 := 0) (by kernel_rfl) (by kernel_rfl) (by kernel_rfl) rfl ?_
  refine vcQ [] (lkL [(0, [0, 3]), (1, [4])]) (lkL [(1, [(2, ROrc.kcall (AV.bool (List.any l.l fun (r : Rng) => !q r)))])]) (fun (Q : AEx → St R.σ → Prop) => (true = true ∧ Does Try.prog R 74 [encR l, fn 75 0 (nth []) 1 (nth [ref 0 0])] [cells false 1 fun (a : Nat) => val u] g (ret (AV.bool (List.any l.l fun (r : Rng) => !q r))) [cells false 1 fun (a : Nat) => val u] g) ∧ Q AEx.ret (St.mk [(4, AV.bool !List.any l.l fun (r : Rng) => !q r)] [cells false 1 fun (a : Nat) => val u] g)) (fun _ => by kernel_rfl) ⟨⟨rfl, (Go.Avm.Pack.c_ContainsFuncF_PackRange _ _ _ _ _ _ _ _ _ _ (by omega) (by kernel_rfl) (fun r _ => (Go.Avm.Pack.c_every1_PackRange _ _ _ _ _ (fun _ => hu _ (by omega) _))))⟩, ?_⟩
  refine (retQ_le (retQ_drop _ _ rfl trivial trivial rfl) (Le.of_eq ?_))
  show (AV.bool !List.any l.l fun (r : Rng) => !q r) = _
  show AV.bool _ = AV.bool _
  congr 1
  simp [List.all_eq_not_any_not]
theorem c_everyF_PackRange (R : Res) (l : KL Rng) (f na nb : Nat) (a b : Nat → AV) (q : Rng → Bool) (hp : List AObj) (g : R.σ) (hl : l.l.length < 1000000) (hpl : isPlain Try.prog f = true)
    (h : ∀ r, r ∈ l.l → Does Try.prog R f (tab na 0 a ++ [encRng r] ++ tab nb 0 b) hp g (.ret (.bool (q r))) hp g) :
    Does Try.prog R 44 [encR l, .fn f na a nb b] hp g (.ret (.bool (l.l.all q))) hp g :=
  does_fn (pre := [encR l]) (D := fun r => r ∈ l.l) (args := fun r => [encRng r]) (oc1 := fun r => .ret (.bool (q r))) ⟨trivial, trivial⟩ hpl (fun r => ⟨below_encRng r, trivial⟩) (fun _ => trivial) h
    (fun R' g' u hu => c_every_PackRange R' l u q g' hl hu)
theorem c_every1_PackRelease (R : Res) (r : Rel) (u : Value) (b : Bool) (g : R.σ) (hu : ∀ hp, VDoes Try.prog R u [encRel r] hp g (.ret (.bool b)) hp g) :
    Does Try.prog R 89 [encRel r, .ref 0 0] [.cells false 1 (fun _ => .val u)] g (.ret (.bool (!b))) [.cells false 1 (fun _ => .val u)] g := by
  refine spec_of_wp (nt := 8) (rs := [.tmp 3]) (k0 := 1) (by kernel_rfl) (by kernel_rfl) (by kernel_rfl) rfl ?_
  refine vcQ [] (lkL [(0, [1, 2]), (1, [3])]) (lkL [(1, [(2, ROrc.kcall (AV.bool b))])]) (fun (Q : AEx → St R.σ → Prop) => 1 ≤ 1 ∧ 2 ≤ 2 ∧ VDoes Try.prog R u [encRel r] [cells false 1 fun (x : Nat) => val u, cells false 2 (nth [encR r.needs, encR r.bars])] g (ret (AV.bool b)) [cells false 1 fun (x : Nat) => val u, cells false 2 (nth [encR r.needs, encR r.bars])] g ∧ Q AEx.ret (St.mk [(3, AV.bool !b)] [cells false 1 fun (x : Nat) => val u, cells false 2 (nth [encR r.needs, encR r.bars])] g)) (fun _ => by kernel_rfl) ⟨(by omega), ⟨(by omega), ⟨(hu _), ?_⟩⟩⟩
  refine (retQ_le (retQ_take' 1 _ _ rfl trivial (by omega) trivial ⟨(fun j hj => match j, hj with | 0, _ => trivial ), trivial⟩ (by kernel_rfl) rfl rfl) (Le.refl _))
theorem c_every_PackRelease (R : Res) (l : KL Rel) (u : Value) (q : Rel → Bool) (g : R.σ) (hl : l.l.length < 1000000)
    (hu : ∀ r, r ∈ l.l → ∀ hp, VDoes Try.prog R u [encRel r] hp g (.ret (.bool (q r))) hp g) :
    Does Try.prog R 73 [encRels l, .val u] [] g (.ret (.bool (l.l.all q))) [] g := by
  refine spec_of_wp (nt := 9) (rs := [.tmp 4]) (k0 := 0) (by kernel_rfl) (by kernel_rfl) (by kernel_rfl) rfl ?_
  refine vcQ [] (lkL [(0, [0, 3]), (1, [4])]) (lkL [(1, [(2, ROrc.kcall (AV.bool (List.any l.l fun (r : Rel) => !q r)))])]) (fun (Q : AEx → St R.σ → Prop) => (true = true ∧ Does Try.prog R 88 [encRels l, fn 89 0 (nth []) 1 (nth [ref 0 0])] [cells false 1 fun (a : Nat) => val u] g (ret (AV.bool (List.any l.l fun (r : Rel) => !q r))) [cells false 1 fun (a : Nat) => val u] g) ∧ Q AEx.ret (St.mk [(4, AV.bool !List.any l.l fun (r : Rel) => !q r)] [cells false 1 fun (a : Nat) => val u] g)) (fun _ => by kernel_rfl) ⟨⟨rfl, (Go.Avm.Pack.c_ContainsFuncF_PackRelease _ _ _ _ _ _ _ _ _ _ (by omega) (by kernel_rfl) (fun r _ => (Go.Avm.Pack.c_every1_PackRelease _ _ _ _ _ (fun _ => hu _ (by omega) _))))⟩, ?_⟩
  refine (retQ_le (retQ_drop _ _ rfl trivial trivial rfl) (Le.of_eq ?_))
  show (AV.bool !List.any l.l fun (r : Rel) => !q r) = _
  show AV.bool _ = AV.bool _
  congr 1
  simp [List.all_eq_not_any_not]
theorem c_everyF_PackRelease (R : Res) (l : KL Rel) (f na nb : Nat) (a b : Nat → AV) (q : Rel → Bool) (hp : List AObj) (g : R.σ) (hl : l.l.length < 1000000) (hpl : isPlain Try.prog f = true)
    (h : ∀ r, r ∈ l.l → Does Try.prog R f (tab na 0 a ++ [encRel r] ++ tab nb 0 b) hp g (.ret (.bool (q r))) hp g) :
    Does Try.prog R 73 [encRels l, .fn f na a nb b] hp g (.ret (.bool (l.l.all q))) hp g :=
  does_fn (pre := [encRels l]) (D := fun r => r ∈ l.l) (args := fun r => [encRel r]) (oc1 := fun r => .ret (.bool (q r))) ⟨trivial, trivial⟩ hpl (fun r => ⟨below_encRel r, trivial⟩) (fun _ => trivial) h
    (fun R' g' u hu => c_every_PackRelease R' l u q g' hl hu)
end Go.Avm.Pack
namespace Go.Avm.Pack
open Go Go.Avm Go.Proofs
open Go.IntKind (i64 u64)
open Go.Avm.AV (int bool any fz fp sl ow ref fn ifc val agg tup)
open Go.Avm.AObj (cells dead)
open Go.Avm.Oc (ret)
set_option maxRecDepth 4000
def inR (n : Int) (r : Rng) : Bool := decide (r.low ≤ n ∧ n ≤ r.high)
theorem c_meets (R : Res) (p : Nat → Int) (r : Rng) (hp : List AObj) (g : R.σ) (h0 : 0 ≤ r.pack) (h1 : r.pack < 8) : Does Try.prog R 91 [encPlan p, encRng r] hp g (.ret (.bool (inR (p r.pack.toNat) r))) hp g := by
  refine does_any' (fun R g => ?_) (by exact ⟨⟨⟨⟨⟨⟨⟨⟨⟨trivial, trivial⟩, trivial⟩, trivial⟩, trivial⟩, trivial⟩, trivial⟩, trivial⟩, trivial⟩, ⟨⟨⟨⟨trivial, trivial⟩, trivial⟩, trivial⟩, trivial⟩⟩) R hp g
  refine spec_of_wp (nt := 14) (rs := [.tmp 4]) (k0 := 0) (by kernel_rfl) (by kernel_rfl) (by kernel_rfl) rfl ?_
  refine vcQ [] (lkL [(0, [2, 3]), (1, [4])]) (lkL [(1, [(8, ROrc.pcall (AV.bool (decide (r.low ≤ p (Int.toNat r.pack) ∧ p (Int.toNat r.pack) ≤ r.high))))])]) (fun (Q : AEx → St R.σ → Prop) => Tables.follows Try.prog.toTables Departure.mixedOrders = true ∧ 1 ≤ 3 ∧ (0 ≤ r.pack ∧ r.pack < (↑8 : Int)) ∧ Int.toNat r.pack + 1 ≤ 8 ∧ 2 ≤ 3 ∧ 3 ≤ 3 ∧ (∀ (hp : List AObj) (g : R.σ), true = true ∧ Does Try.prog R 70 [int i64 (p (Int.toNat r.pack)), int i64 r.low, int i64 r.high] hp g (ret (AV.bool (decide (r.low ≤ p (Int.toNat r.pack) ∧ p (Int.toNat r.pack) ≤ r.high)))) hp g) ∧ Q AEx.ret (St.mk [(4, AV.bool (decide (r.low ≤ p (Int.toNat r.pack) ∧ p (Int.toNat r.pack) ≤ r.high)))] [cells false 8 fun (a : Nat) => int i64 (p a), cells false 3 (nth [int i64 r.pack, int i64 r.low, int i64 r.high])] g)) (fun _ => by kernel_rfl) ⟨(by kernel_rfl), ⟨(by omega), ⟨(by omega), ⟨(by omega), ⟨(by omega), ⟨(by omega), ⟨(fun _ _ => ⟨rfl, (Go.Avm.Pack.c_within _ _ _ _ _ _)⟩), ?_⟩⟩⟩⟩⟩⟩⟩
  refine (retQ_le (retQ_drop _ _ rfl trivial trivial rfl) (Le.of_eq (by kernel_rfl)))
theorem c_Meets (R : Res) (p : KL Int) (r : Rng) (hp : List AObj) (g : R.σ) (h0 : 0 ≤ r.pack) (h1 : r.pack < p.l.length) : Does Try.prog R 51 [encI p, encRng r] hp g (.ret (.bool (inR (p.l.getD r.pack.toNat 0) r))) hp g := by
  refine does_any' (fun R g => ?_) (by exact ⟨trivial, ⟨⟨⟨⟨trivial, trivial⟩, trivial⟩, trivial⟩, trivial⟩⟩) R hp g
  refine spec_of_wp (nt := 15) (rs := [.tmp 4]) (k0 := 0) (by kernel_rfl) (by kernel_rfl) (by kernel_rfl) rfl ?_
  refine vcQ [] (lkL [(0, [0, 3]), (1, [4])]) (lkL [(1, [(9, ROrc.pcall (AV.bool (decide (r.low ≤ List.getD p.l (Int.toNat r.pack) 0 ∧ List.getD p.l (Int.toNat r.pack) 0 ≤ r.high))))])]) (fun (Q : AEx → St R.σ → Prop) => Tables.follows Try.prog.toTables Departure.mixedOrders = true ∧ 1 ≤ 3 ∧ (0 ≤ r.pack ∧ r.pack < (↑(List.length p.l) : Int)) ∧ 1 ≤ 1 ∧ 2 ≤ 3 ∧ 3 ≤ 3 ∧ (∀ (hp : List AObj) (g : R.σ), true = true ∧ Does Try.prog R 50 [int i64 (List.getD p.l (Int.toNat r.pack) 0), int i64 r.low, int i64 r.high] hp g (ret (AV.bool (decide (r.low ≤ List.getD p.l (Int.toNat r.pack) 0 ∧ List.getD p.l (Int.toNat r.pack) 0 ≤ r.high)))) hp g) ∧ Q AEx.ret (St.mk [(4, AV.bool (decide (r.low ≤ List.getD p.l (Int.toNat r.pack) 0 ∧ List.getD p.l (Int.toNat r.pack) 0 ≤ r.high)))] [cells false 3 (nth [int i64 r.pack, int i64 r.low, int i64 r.high])] g)) (fun _ => by kernel_rfl) ⟨(by kernel_rfl), ⟨(by omega), ⟨(by omega), ⟨(by omega), ⟨(by omega), ⟨(by omega), ⟨(fun _ _ => ⟨rfl, (Go.Avm.Pack.c_in _ _ _ _ _ _)⟩), ?_⟩⟩⟩⟩⟩⟩⟩
  refine (retQ_le (retQ_drop _ _ rfl trivial trivial rfl) (Le.of_eq (by kernel_rfl)))
def rels (x : Ix) (i : Int) : List Rel := (x.l.getD i.toNat default).l
def rangedB (x : Ix) (r : Rng) : Bool := decide (0 ≤ r.pack ∧ r.pack < x.l.length ∧ 0 ≤ r.low ∧ r.low ≤ r.high ∧ r.high < (rels x r.pack).length)
def small (x : Ix) : Prop := x.l.length < 1000000 ∧ ∀ i, (x.l.getD i default).l.length < 1000000
theorem c_ranged (R : Res) (x : Ix) (gl : KL Rng) (r : Rng) (hp : List AObj) (g : R.σ) (hs : small x) : Does Try.prog R 45 [encMkt x gl, encRng r] hp g (.ret (.bool (rangedB x r))) hp g := by
  have w1 := hs.1
  have w2 := hs.2 r.pack.toNat
  refine does_any' (fun R g => ?_) (by exact ⟨⟨⟨trivial, trivial⟩, trivial⟩, ⟨⟨⟨⟨trivial, trivial⟩, trivial⟩, trivial⟩, trivial⟩⟩) R hp g
  refine spec_of_wp (nt := 34) (rs := [.tmp 4]) (k0 := 0) (by kernel_rfl) (by kernel_rfl) (by kernel_rfl) rfl ?_
  refine vcQ [] (lkL [(0, [2, 3]), (1, [4])]) (lkL [(1, [(7, ROrc.pcall (AV.bool (decide (0 ≤ r.pack ∧ r.pack ≤ (↑(List.length x.l) : Int) - 1)))), (27, ROrc.pcall (AV.bool (decide (r.low ≤ r.high ∧ r.high ≤ (↑(List.length (List.getD x.l (Int.toNat r.pack) default).l) : Int) - 1))))])]) (fun (Q : AEx → St R.σ → Prop) => Tables.follows Try.prog.toTables Departure.mixedOrders = true ∧ 1 ≤ 3 ∧ 1 ≤ 2 ∧ (-9223372036854775808 ≤ (↑(List.length x.l) : Int) - 1 ∧ (↑(List.length x.l) : Int) - 1 ≤ 9223372036854775807) ∧ (∀ (hp : List AObj) (g : R.σ), true = true ∧ Does Try.prog R 70 [int i64 r.pack, int i64 0, int i64 ((↑(List.length x.l) : Int) - 1)] hp g (ret (AV.bool (decide (0 ≤ r.pack ∧ r.pack ≤ (↑(List.length x.l) : Int) - 1)))) hp g) ∧ (decide (0 ≤ r.pack ∧ r.pack ≤ (↑(List.length x.l) : Int) - 1) = true → 2 ≤ 3) ∧ ((bif decide (0 ≤ r.pack ∧ r.pack ≤ (↑(List.length x.l) : Int) - 1) then decide (r.low ≥ 0) else false) = true → 3 ≤ 3) ∧ ((bif decide (0 ≤ r.pack ∧ r.pack ≤ (↑(List.length x.l) : Int) - 1) then decide (r.low ≥ 0) else false) = true → 2 ≤ 3) ∧ ((bif decide (0 ≤ r.pack ∧ r.pack ≤ (↑(List.length x.l) : Int) - 1) then decide (r.low ≥ 0) else false) = true → 1 ≤ 2) ∧ ((bif decide (0 ≤ r.pack ∧ r.pack ≤ (↑(List.length x.l) : Int) - 1) then decide (r.low ≥ 0) else false) = true → 1 ≤ 3) ∧ ((bif decide (0 ≤ r.pack ∧ r.pack ≤ (↑(List.length x.l) : Int) - 1) then decide (r.low ≥ 0) else false) = true → 0 ≤ r.pack ∧ r.pack < (↑(List.length x.l) : Int)) ∧ ((bif decide (0 ≤ r.pack ∧ r.pack ≤ (↑(List.length x.l) : Int) - 1) then decide (r.low ≥ 0) else false) = true → 1 ≤ 1) ∧ ((bif decide (0 ≤ r.pack ∧ r.pack ≤ (↑(List.length x.l) : Int) - 1) then decide (r.low ≥ 0) else false) = true → -9223372036854775808 ≤ (↑(List.length (List.getD x.l (Int.toNat r.pack) default).l) : Int) - 1 ∧ (↑(List.length (List.getD x.l (Int.toNat r.pack) default).l) : Int) - 1 ≤ 9223372036854775807) ∧ ((bif decide (0 ≤ r.pack ∧ r.pack ≤ (↑(List.length x.l) : Int) - 1) then decide (r.low ≥ 0) else false) = true → ∀ (hp : List AObj) (g : R.σ), true = true ∧ Does Try.prog R 70 [int i64 r.high, int i64 r.low, int i64 ((↑(List.length (List.getD x.l (Int.toNat r.pack) default).l) : Int) - 1)] hp g (ret (AV.bool (decide (r.low ≤ r.high ∧ r.high ≤ (↑(List.length (List.getD x.l (Int.toNat r.pack) default).l) : Int) - 1)))) hp g) ∧ Q AEx.ret (St.mk [(4, AV.bool (bif bif decide (0 ≤ r.pack ∧ r.pack ≤ (↑(List.length x.l) : Int) - 1) then decide (r.low ≥ 0) else false then decide (r.low ≤ r.high ∧ r.high ≤ (↑(List.length (List.getD x.l (Int.toNat r.pack) default).l) : Int) - 1) else false))] [cells false 2 (nth [encPacks x, encR gl]), cells false 3 (nth [int i64 r.pack, int i64 r.low, int i64 r.high])] g)) (fun _ => by kernel_rfl) ⟨(by kernel_rfl), ⟨(by omega), ⟨(by omega), ⟨(by omega), ⟨(fun _ _ => ⟨rfl, (Go.Avm.Pack.c_within _ _ _ _ _ _)⟩), ⟨(by omega), ⟨(by omega), ⟨(by omega), ⟨(by omega), ⟨(by omega), ⟨(by intro h; simp at h <;> omega), ⟨(by omega), ⟨(by omega), ⟨(fun hgd => (fun _ _ => ⟨rfl, (Go.Avm.Pack.c_within _ _ _ _ _ _)⟩)), ?_⟩⟩⟩⟩⟩⟩⟩⟩⟩⟩⟩⟩⟩⟩
  refine (retQ_le (retQ_drop _ _ rfl trivial trivial rfl) (Le.of_eq ?_))
  show (AV.bool (bif bif decide (0 ≤ r.pack ∧ r.pack ≤ (↑(List.length x.l) : Int) - 1) then decide (r.low ≥ 0) else false then decide (r.low ≤ r.high ∧ r.high ≤ (↑(List.length (List.getD x.l (Int.toNat r.pack) default).l) : Int) - 1) else false)) = _
  show AV.bool _ = AV.bool _
  congr 1
  unfold rangedB rels
  rw [Bool.eq_iff_iff]
  simp
  omega
theorem c_Range (R : Res) (x : Ix) (r : Rng) (hp : List AObj) (g : R.σ) (hs : small x) : Does Try.prog R 94 [encIx x, encRng r] hp g (.ret (.bool (rangedB x r))) hp g := by
  have w1 := hs.1
  have w2 := hs.2 r.pack.toNat
  refine does_any' (fun R g => ?_) (by exact ⟨⟨trivial, trivial⟩, ⟨⟨⟨⟨trivial, trivial⟩, trivial⟩, trivial⟩, trivial⟩⟩) R hp g
  refine spec_of_wp (nt := 37) (rs := [.tmp 4]) (k0 := 0) (by kernel_rfl) (by kernel_rfl) (by kernel_rfl) rfl ?_
  refine vcQ [] (lkL [(0, [2, 3]), (1, [4])]) (lkL [(1, [(6, ROrc.pcall (AV.bool (decide (0 ≤ r.pack ∧ r.pack ≤ (↑(List.length x.l) : Int) - 1))))])]) (fun (Q : AEx → St R.σ → Prop) => Tables.follows Try.prog.toTables Departure.mixedOrders = true ∧ 1 ≤ 3 ∧ 1 ≤ 1 ∧ (-9223372036854775808 ≤ (↑(List.length x.l) : Int) - 1 ∧ (↑(List.length x.l) : Int) - 1 ≤ 9223372036854775807) ∧ (∀ (hp : List AObj) (g : R.σ), true = true ∧ Does Try.prog R 50 [int i64 r.pack, int i64 0, int i64 ((↑(List.length x.l) : Int) - 1)] hp g (ret (AV.bool (decide (0 ≤ r.pack ∧ r.pack ≤ (↑(List.length x.l) : Int) - 1)))) hp g) ∧ (decide (0 ≤ r.pack ∧ r.pack ≤ (↑(List.length x.l) : Int) - 1) = true → 2 ≤ 3) ∧ ((bif decide (0 ≤ r.pack ∧ r.pack ≤ (↑(List.length x.l) : Int) - 1) then decide (r.low ≥ 0) else false) = true → 3 ≤ 3) ∧ ((bif decide (0 ≤ r.pack ∧ r.pack ≤ (↑(List.length x.l) : Int) - 1) then decide (r.low ≥ 0) else false) = true → 2 ≤ 3) ∧ ((bif bif decide (0 ≤ r.pack ∧ r.pack ≤ (↑(List.length x.l) : Int) - 1) then decide (r.low ≥ 0) else false then decide (r.high ≥ r.low) else false) = true → 3 ≤ 3) ∧ ((bif bif decide (0 ≤ r.pack ∧ r.pack ≤ (↑(List.length x.l) : Int) - 1) then decide (r.low ≥ 0) else false then decide (r.high ≥ r.low) else false) = true → 1 ≤ 1) ∧ ((bif bif decide (0 ≤ r.pack ∧ r.pack ≤ (↑(List.length x.l) : Int) - 1) then decide (r.low ≥ 0) else false then decide (r.high ≥ r.low) else false) = true → 1 ≤ 3) ∧ ((bif bif decide (0 ≤ r.pack ∧ r.pack ≤ (↑(List.length x.l) : Int) - 1) then decide (r.low ≥ 0) else false then decide (r.high ≥ r.low) else false) = true → 0 ≤ r.pack ∧ r.pack < (↑(List.length x.l) : Int)) ∧ ((bif bif decide (0 ≤ r.pack ∧ r.pack ≤ (↑(List.length x.l) : Int) - 1) then decide (r.low ≥ 0) else false then decide (r.high ≥ r.low) else false) = true → 1 ≤ 1) ∧ ((bif bif decide (0 ≤ r.pack ∧ r.pack ≤ (↑(List.length x.l) : Int) - 1) then decide (r.low ≥ 0) else false then decide (r.high ≥ r.low) else false) = true → -9223372036854775808 ≤ (↑(List.length (List.getD x.l (Int.toNat r.pack) default).l) : Int) - 1 ∧ (↑(List.length (List.getD x.l (Int.toNat r.pack) default).l) : Int) - 1 ≤ 9223372036854775807) ∧ Q AEx.ret (St.mk [(4, AV.bool (bif bif bif decide (0 ≤ r.pack ∧ r.pack ≤ (↑(List.length x.l) : Int) - 1) then decide (r.low ≥ 0) else false then decide (r.high ≥ r.low) else false then decide (r.high ≤ (↑(List.length (List.getD x.l (Int.toNat r.pack) default).l) : Int) - 1) else false))] [cells false 1 (nth [encPacks x]), cells false 3 (nth [int i64 r.pack, int i64 r.low, int i64 r.high])] g)) (fun _ => by kernel_rfl) ⟨(by kernel_rfl), ⟨(by omega), ⟨(by omega), ⟨(by omega), ⟨(fun _ _ => ⟨rfl, (Go.Avm.Pack.c_in _ _ _ _ _ _)⟩), ⟨(by omega), ⟨(by omega), ⟨(by omega), ⟨(by omega), ⟨(by omega), ⟨(by omega), ⟨(by intro h; simp at h <;> omega), ⟨(by omega), ⟨(by omega), ?_⟩⟩⟩⟩⟩⟩⟩⟩⟩⟩⟩⟩⟩⟩
  refine (retQ_le (retQ_drop _ _ rfl trivial trivial rfl) (Le.of_eq ?_))
  show (AV.bool (bif bif bif decide (0 ≤ r.pack ∧ r.pack ≤ (↑(List.length x.l) : Int) - 1) then decide (r.low ≥ 0) else false then decide (r.high ≥ r.low) else false then decide (r.high ≤ (↑(List.length (List.getD x.l (Int.toNat r.pack) default).l) : Int) - 1) else false)) = _
  show AV.bool _ = AV.bool _
  congr 1
  unfold rangedB rels
  rw [Bool.eq_iff_iff]
  simp
  omega
def otherB (x : Ix) (i : Int) (r : Rng) : Bool := rangedB x r && r.pack != i
theorem c_formed1 (R : Res) (x : Ix) (gl : KL Rng) (i : Int) (r : Rng) (g : R.σ) (hs : small x) : Does Try.prog R 71 [encRng r, .ref 0 0, .ref 1 0] [.cells false 2 (nth [encPacks x, encR gl]), .cells false 1 (fun _ => .int .i64 i)] g (.ret (.bool (otherB x i r))) [.cells false 2 (nth [encPacks x, encR gl]), .cells false 1 (fun _ => .int .i64 i)] g := by
  refine spec_of_wp (nt := 14) (rs := [.tmp 4]) (k0 := 2) (by kernel_rfl) (by kernel_rfl) (by kernel_rfl) rfl ?_
  refine vcQ [] (lkL [(0, [1, 2, 3]), (1, [4])]) (lkL [(1, [(2, ROrc.pcall (AV.bool (rangedB x r)))])]) (fun (Q : AEx → St R.σ → Prop) => 2 ≤ 2 ∧ 3 ≤ 3 ∧ (∀ (hp : List AObj) (g : R.σ), true = true ∧ Does Try.prog R 45 [encMkt x gl, encRng r] hp g (ret (AV.bool (rangedB x r))) hp g) ∧ (rangedB x r = true → 1 ≤ 3) ∧ (rangedB x r = true → 1 ≤ 1) ∧ Q AEx.ret (St.mk [(4, AV.bool (bif rangedB x r then r.pack != i else false))] [cells false 2 (nth [encPacks x, encR gl]), cells false 1 fun (x : Nat) => int i64 i, cells false 3 (nth [int i64 r.pack, int i64 r.low, int i64 r.high])] g)) (fun _ => by kernel_rfl) ⟨(by omega), ⟨(by omega), ⟨(fun _ _ => ⟨rfl, (Go.Avm.Pack.c_ranged _ _ _ _ _ _ (by omega))⟩), ⟨(by omega), ⟨(by omega), ?_⟩⟩⟩⟩⟩
  refine (retQ_le (retQ_take' 2 _ _ rfl trivial (by omega) trivial ⟨(fun j hj => match j, hj with | 0, _ => trivial | 1, _ => trivial ), ⟨(fun j hj => match j, hj with | 0, _ => trivial ), trivial⟩⟩ (by kernel_rfl) rfl rfl) (Le.of_eq (by kernel_rfl)))
def relB (x : Ix) (i : Int) (r : Rel) : Bool := ((decide ((r.needs.l.length : Int) ≤ 4) && decide ((r.bars.l.length : Int) ≤ 4)) && r.needs.l.all (otherB x i)) && r.bars.l.all (otherB x i)
def hpF (x : Ix) (gl : KL Rng) (i : Int) : List AObj := [.cells false 2 (nth [encPacks x, encR gl]), .cells false 1 (fun _ => .int .i64 i), .cells false 1 (fun _ => .fn 71 0 (fun _ => .any) 2 (nth [.ref 0 0, .ref 1 0]))]
theorem c_formed2 (R : Res) (x : Ix) (gl : KL Rng) (i : Int) (r : Rel) (g : R.σ) (hs : small x) : Does Try.prog R 72 [encRel r, .ref 2 0] (hpF x gl i) g (.ret (.bool (relB x i r))) (hpF x gl i) g := by
  refine spec_of_wp (nt := 26) (rs := [.tmp 3]) (k0 := 3) (by kernel_rfl) (by kernel_rfl) (by kernel_rfl) rfl ?_
  refine vcQ [] (lkL [(0, [1, 2]), (1, [3])]) (lkL [(1, [(14, ROrc.kcall (AV.bool (List.all r.needs.l (otherB x i)))), (20, ROrc.kcall (AV.bool (List.all r.bars.l (otherB x i))))])]) (fun (Q : AEx → St R.σ → Prop) => 1 ≤ 2 ∧ (decide ((↑(List.length r.needs.l) : Int) ≤ 4) = true → 2 ≤ 2) ∧ ((bif decide ((↑(List.length r.needs.l) : Int) ≤ 4) then decide ((↑(List.length r.bars.l) : Int) ≤ 4) else false) = true → 1 ≤ 2) ∧ ((bif decide ((↑(List.length r.needs.l) : Int) ≤ 4) then decide ((↑(List.length r.bars.l) : Int) ≤ 4) else false) = true → 1 ≤ 1) ∧ ((bif decide ((↑(List.length r.needs.l) : Int) ≤ 4) then decide ((↑(List.length r.bars.l) : Int) ≤ 4) else false) = true → true = true ∧ Does Try.prog R 44 [encR r.needs, fn 71 0 (fun (x : Nat) => any) 2 (nth [ref 0 0, ref 1 0])] [cells false 2 (nth [encPacks x, encR gl]), cells false 1 fun (x : Nat) => int i64 i, cells false 1 fun (x : Nat) => fn 71 0 (fun (x : Nat) => any) 2 (nth [ref 0 0, ref 1 0]), cells false 2 (nth [encR r.needs, encR r.bars])] g (ret (AV.bool (List.all r.needs.l (otherB x i)))) [cells false 2 (nth [encPacks x, encR gl]), cells false 1 fun (x : Nat) => int i64 i, cells false 1 fun (x : Nat) => fn 71 0 (fun (x : Nat) => any) 2 (nth [ref 0 0, ref 1 0]), cells false 2 (nth [encR r.needs, encR r.bars])] g) ∧ ((bif bif decide ((↑(List.length r.needs.l) : Int) ≤ 4) then decide ((↑(List.length r.bars.l) : Int) ≤ 4) else false then List.all r.needs.l (otherB x i) else false) = true → 2 ≤ 2) ∧ ((bif bif decide ((↑(List.length r.needs.l) : Int) ≤ 4) then decide ((↑(List.length r.bars.l) : Int) ≤ 4) else false then List.all r.needs.l (otherB x i) else false) = true → 1 ≤ 1) ∧ ((bif bif decide ((↑(List.length r.needs.l) : Int) ≤ 4) then decide ((↑(List.length r.bars.l) : Int) ≤ 4) else false then List.all r.needs.l (otherB x i) else false) = true → true = true ∧ Does Try.prog R 44 [encR r.bars, fn 71 0 (fun (x : Nat) => any) 2 (nth [ref 0 0, ref 1 0])] [cells false 2 (nth [encPacks x, encR gl]), cells false 1 fun (x : Nat) => int i64 i, cells false 1 fun (x : Nat) => fn 71 0 (fun (x : Nat) => any) 2 (nth [ref 0 0, ref 1 0]), cells false 2 (nth [encR r.needs, encR r.bars])] g (ret (AV.bool (List.all r.bars.l (otherB x i)))) [cells false 2 (nth [encPacks x, encR gl]), cells false 1 fun (x : Nat) => int i64 i, cells false 1 fun (x : Nat) => fn 71 0 (fun (x : Nat) => any) 2 (nth [ref 0 0, ref 1 0]), cells false 2 (nth [encR r.needs, encR r.bars])] g) ∧ Q AEx.ret (St.mk [(3, AV.bool (bif bif bif decide ((↑(List.length r.needs.l) : Int) ≤ 4) then decide ((↑(List.length r.bars.l) : Int) ≤ 4) else false then List.all r.needs.l (otherB x i) else false then List.all r.bars.l (otherB x i) else false))] [cells false 2 (nth [encPacks x, encR gl]), cells false 1 fun (x : Nat) => int i64 i, cells false 1 fun (x : Nat) => fn 71 0 (fun (x : Nat) => any) 2 (nth [ref 0 0, ref 1 0]), cells false 2 (nth [encR r.needs, encR r.bars])] g)) (fun _ => by kernel_rfl) ⟨(by omega), ⟨(by omega), ⟨(by omega), ⟨(by omega), ⟨(fun hgd => ⟨rfl, (Go.Avm.Pack.c_everyF_PackRange _ _ _ _ _ _ _ _ _ _ (by simp at * <;> omega) (by kernel_rfl) (fun r _ => (does_sub' [0, 1] 4 (fun R g => Go.Avm.Pack.c_formed1 R (x) (gl) (i) (r) g (by omega)) rfl rfl rfl (by exact ⟨⟨rfl, Nat.le_refl _, fun j hj => match j, hj with | 0, _ => (Le.refl _) | 1, _ => (Le.refl _) ⟩, ⟨⟨rfl, Nat.le_refl _, fun j hj => match j, hj with | 0, _ => (Le.refl _) ⟩, trivial⟩⟩) (by exact ⟨by omega, ⟨by omega, trivial⟩⟩) (by exact ⟨le_ren (by exact ⟨⟨⟨trivial, trivial⟩, trivial⟩, trivial⟩), ⟨(Le.refl _), ⟨(Le.refl _), trivial⟩⟩⟩) (by exact le_unren (by exact trivial)) (by exact ⟨⟨rfl, Nat.le_refl _, fun j hj => match j, hj with | 0, _ => (Le.refl _) | 1, _ => (Le.refl _) ⟩, ⟨⟨rfl, Nat.le_refl _, fun j hj => match j, hj with | 0, _ => (Le.refl _) ⟩, ⟨LeO.rflc, ⟨LeO.rflc, trivial⟩⟩⟩⟩))))⟩), ⟨(by omega), ⟨(by omega), ⟨(fun hgd => ⟨rfl, (Go.Avm.Pack.c_everyF_PackRange _ _ _ _ _ _ _ _ _ _ (by simp at * <;> omega) (by kernel_rfl) (fun r _ => (does_sub' [0, 1] 4 (fun R g => Go.Avm.Pack.c_formed1 R (x) (gl) (i) (r) g (by omega)) rfl rfl rfl (by exact ⟨⟨rfl, Nat.le_refl _, fun j hj => match j, hj with | 0, _ => (Le.refl _) | 1, _ => (Le.refl _) ⟩, ⟨⟨rfl, Nat.le_refl _, fun j hj => match j, hj with | 0, _ => (Le.refl _) ⟩, trivial⟩⟩) (by exact ⟨by omega, ⟨by omega, trivial⟩⟩) (by exact ⟨le_ren (by exact ⟨⟨⟨trivial, trivial⟩, trivial⟩, trivial⟩), ⟨(Le.refl _), ⟨(Le.refl _), trivial⟩⟩⟩) (by exact le_unren (by exact trivial)) (by exact ⟨⟨rfl, Nat.le_refl _, fun j hj => match j, hj with | 0, _ => (Le.refl _) | 1, _ => (Le.refl _) ⟩, ⟨⟨rfl, Nat.le_refl _, fun j hj => match j, hj with | 0, _ => (Le.refl _) ⟩, ⟨LeO.rflc, ⟨LeO.rflc, trivial⟩⟩⟩⟩))))⟩), ?_⟩⟩⟩⟩⟩⟩⟩⟩
  refine (retQ_le (retQ_take' 3 _ _ rfl trivial (by omega) trivial ⟨(fun j hj => match j, hj with | 0, _ => trivial | 1, _ => trivial ), ⟨(fun j hj => match j, hj with | 0, _ => trivial ), ⟨(fun j hj => match j, hj with | 0, _ => ⟨trivial, ⟨⟨trivial, (show 1 ≤ 3 by omega)⟩, (show 2 ≤ 3 by omega)⟩⟩ ), trivial⟩⟩⟩ (by kernel_rfl) rfl rfl) (Le.of_eq (by kernel_rfl)))
def relsB (x : Ix) (i : Int) (l : List Rel) : Bool := decide (l.length ≤ 5) && l.all (relB x i)
def allN' (n : Nat) (q : Nat → Bool) : Bool := (List.range n).all q
theorem allN'_false {n i : Nat} {q : Nat → Bool} (h : i < n) (hq : q i = false) : allN' n q = false := by
  unfold allN'
  rw [List.all_eq_false]
  exact ⟨i, by simpa using h, by simp [hq]⟩
theorem allN'_true {n : Nat} {q : Nat → Bool} (h : ∀ i, i < n → q i = true) : allN' n q = true := by
  unfold allN'
  rw [List.all_eq_true]
  intro i hi
  exact h i (by simpa using hi)
def formedB (x : Ix) : Bool := decide (1 ≤ x.l.length ∧ x.l.length ≤ 8) && allN' x.l.length (fun i => relsB x i (x.l.getD i default).l)
def smallR (x : Ix) : Prop := ∀ i k, ((x.l.getD i default).l.getD k default).needs.l.length < 1000000 ∧ ((x.l.getD i default).l.getD k default).bars.l.length < 1000000
theorem c_formed (R : Res) (x : Ix) (gl : KL Rng) (hp : List AObj) (g : R.σ) (hs : small x) : Does Try.prog R 43 [encMkt x gl] hp g (.ret (.bool (formedB x))) hp g := by
  have w1 := hs.1
  refine does_any' (fun R g => ?_) (by exact ⟨⟨⟨trivial, trivial⟩, trivial⟩, trivial⟩) R hp g
  refine spec_of_wp (nt := 34) (rs := [.tmp 2]) (k0 := 0) (by kernel_rfl) (by kernel_rfl) (by kernel_rfl) rfl ?_
  refine vcQ [] (lkL [(0, [1]), (1, [1, 12]), (2, [2]), (3, [1, 15, 16, 17])]) (lkL [(1, [(4, ROrc.pcall (AV.bool (decide (1 ≤ (↑(List.length x.l) : Int) ∧ (↑(List.length x.l) : Int) ≤ 8))))])]) (fun (Q : AEx → St R.σ → Prop) => 1 ≤ 2 ∧ (∀ (hp : List AObj) (g : R.σ), true = true ∧ Does Try.prog R 70 [int i64 (↑(List.length x.l) : Int), int i64 1, int i64 8] hp g (ret (AV.bool (decide (1 ≤ (↑(List.length x.l) : Int) ∧ (↑(List.length x.l) : Int) ≤ 8)))) hp g) ∧ ((!decide (1 ≤ (↑(List.length x.l) : Int) ∧ (↑(List.length x.l) : Int) ≤ 8)) = true → Q AEx.ret (St.mk [(2, AV.bool false)] [cells false 2 (nth [encPacks x, encR gl])] g)) ∧ ((!decide (1 ≤ (↑(List.length x.l) : Int) ∧ (↑(List.length x.l) : Int) ≤ 8)) = false → 1 ≤ 2 ∧ Wp Try.prog R 34 0 Rd.top (bodyOf Try.prog 43) [1, 1, 0, 1, 0] (contQ Try.prog R 34 0 Rd.top (bodyOf Try.prog 43) Q [Kont.blk 0, Kont.seq [1, 1, 1]]) (St.mk [(1, ref 0 0), (15, encPacks x), (16, int i64 (↑(List.length x.l) : Int)), (17, int i64 0)] [cells false 2 (nth [encPacks x, encR gl])] g))) (fun _ => by kernel_rfl) ⟨(by omega), ⟨(fun _ _ => ⟨rfl, (Go.Avm.Pack.c_within _ _ _ _ _ _)⟩), ⟨fun c1 => have c1 : ¬(1 ≤ (↑(List.length x.l) : Int) ∧ (↑(List.length x.l) : Int) ≤ 8) := (of_decide_eq_false ((Bool.not_eq_true' _).mp c1)); ?_, fun c1 => have c1 : 1 ≤ (↑(List.length x.l) : Int) ∧ (↑(List.length x.l) : Int) ≤ 8 := (of_decide_eq_true ((Bool.not_eq_false' _).mp c1)); ⟨(by omega), ?_⟩⟩⟩⟩
  · refine (retQ_le (retQ_drop _ _ rfl trivial trivial rfl) (Le.of_eq ?_))
    show (AV.bool false) = _
    congr 1
    unfold formedB
    simp
    omega
  · have hb : 1 ≤ x.l.length ∧ x.l.length ≤ 8 := by omega
    refine (wp_loop (by kernel_rfl) (fun (i : Nat) => ⟨[(1, ref 0 0), (15, encPacks x), (16, int i64 (↑(List.length x.l) : Int)), (17, .int .i64 (i : Int))], [cells false 2 (nth [encPacks x, encR gl])], g⟩) (fun (i : Nat) => (i ≤ x.l.length ∧ ∀ j, j < i → relsB x j (x.l.getD j default).l = true)) (fun (i : Nat) => (x.l.length - i)) 0 (to_fr ⟨(Le.refl _), ⟨(Le.refl _), ⟨(Le.refl _), ⟨(Le.of_eq (by kernel_rfl)), trivial⟩⟩⟩⟩ rfl rfl) ?_ (fun i hi => ?_))
    · exact ⟨Nat.zero_le _, fun j hj => absurd hj (by omega)⟩
    · obtain ⟨h1, h2⟩ := hi
      refine vcQ [] (lkL [(4, [1, 15, 16, 17, 18]), (5, [1, 3, 4, 15, 16, 17]), (6, [1, 4, 5, 15, 16, 17]), (7, [1, 4, 6, 15, 16, 17]), (8, [1, 15, 16, 17, 32]), (9, [2]), (10, [1, 15, 16, 17])]) (lkL [(5, [(4, ROrc.val (Orc.obj (nth [int i64 (↑i : Int)])))]), (6, [(2, ROrc.val (Orc.obj (nth [fn 71 0 (nth []) 2 (nth [ref 0 0, ref 1 0])])))]), (8, [(6, ROrc.kcall (AV.bool (List.all (List.getD x.l i default).l (relB x (↑i : Int)))))])]) (fun (Q : AEx → St R.σ → Prop) => (decide ((↑i : Int) < (↑(List.length x.l) : Int)) = true → (0 ≤ (↑i : Int) ∧ (↑i : Int) < (↑(List.length x.l) : Int)) ∧ 1 ≤ 1 ∧ 1 ≤ 1 ∧ (∀ (c : Nat), c < 1 → nth [int i64 (↑i : Int)] c = over (fun (a : Nat) => int i64 0) 0 1 (fun (x : Nat) => int i64 (↑i : Int)) c) ∧ 1 ≤ 1 ∧ (∀ (c : Nat), c < 1 → nth [fn 71 0 (nth []) 2 (nth [ref 0 0, ref 1 0])] c = over (fun (a : Nat) => AV.nilf) 0 1 (fun (x : Nat) => fn 71 0 (nth []) 2 (nth [ref 0 0, ref 1 0])) c) ∧ ((!decide ((↑(List.length (List.getD x.l i default).l) : Int) > 5)) = true → true = true ∧ Does Try.prog R 73 [encRels (List.getD x.l i default), fn 72 0 (nth []) 1 (nth [ref 2 0])] [cells false 2 (nth [encPacks x, encR gl]), cells false 1 (nth [int i64 (↑i : Int)]), cells false 1 (nth [fn 71 0 (nth []) 2 (nth [ref 0 0, ref 1 0])])] g (ret (AV.bool (List.all (List.getD x.l i default).l (relB x (↑i : Int))))) [cells false 2 (nth [encPacks x, encR gl]), cells false 1 (nth [int i64 (↑i : Int)]), cells false 1 (nth [fn 71 0 (nth []) 2 (nth [ref 0 0, ref 1 0])])] g) ∧ ((bif decide ((↑(List.length (List.getD x.l i default).l) : Int) > 5) then true else !List.all (List.getD x.l i default).l (relB x (↑i : Int))) = true → Q AEx.ret (St.mk [(2, AV.bool false)] [cells false 2 (nth [encPacks x, encR gl]), cells false 1 (nth [int i64 (↑i : Int)]), cells false 1 (nth [fn 71 0 (nth []) 2 (nth [ref 0 0, ref 1 0])])] g)) ∧ ((bif decide ((↑(List.length (List.getD x.l i default).l) : Int) > 5) then true else !List.all (List.getD x.l i default).l (relB x (↑i : Int))) = false → (-9223372036854775808 ≤ (↑i : Int) + 1 ∧ (↑i : Int) + 1 ≤ 9223372036854775807) ∧ Q AEx.normal (St.mk [(1, ref 0 0), (15, encPacks x), (16, int i64 (↑(List.length x.l) : Int)), (17, int i64 ((↑i : Int) + 1))] [cells false 2 (nth [encPacks x, encR gl]), cells false 1 (nth [int i64 (↑i : Int)]), cells false 1 (nth [fn 71 0 (nth []) 2 (nth [ref 0 0, ref 1 0])])] g))) ∧ (decide ((↑i : Int) < (↑(List.length x.l) : Int)) = false → Q (AEx.exit 0) (St.mk [(1, ref 0 0), (15, encPacks x), (16, int i64 (↑(List.length x.l) : Int)), (17, int i64 (↑i : Int)), (18, AV.bool (decide ((↑i : Int) < (↑(List.length x.l) : Int))))] [cells false 2 (nth [encPacks x, encR gl])] g))) (fun _ => by kernel_rfl) ⟨fun c1 => have c1 : (↑i : Int) < (↑(List.length x.l) : Int) := (of_decide_eq_true c1); ⟨(by omega), ⟨(by omega), ⟨(by omega), ⟨(fun c hc => match c, hc with | 0, _ => (by kernel_rfl) ), ⟨(by omega), ⟨(fun c hc => match c, hc with | 0, _ => (by kernel_rfl) ), ⟨(fun hgd => ⟨rfl, (Go.Avm.Pack.c_everyF_PackRelease _ _ _ _ _ _ _ _ _ _ (by simp at * <;> omega) (by kernel_rfl) (fun r _ => (does_sub' [0, 1, 2] 3 (fun R g => Go.Avm.Pack.c_formed2 R (x) (gl) ((↑i : Int)) (r) g (by omega)) rfl rfl rfl (by exact ⟨⟨rfl, Nat.le_refl _, fun j hj => match j, hj with | 0, _ => (Le.refl _) | 1, _ => (Le.refl _) ⟩, ⟨⟨rfl, Nat.le_refl _, fun j hj => match j, hj with | 0, _ => (Le.refl _) ⟩, ⟨⟨rfl, Nat.le_refl _, fun j hj => match j, hj with | 0, _ => (Le.fn (fun i hi => absurd hi (by omega)) (fun i hi => match i, hi with | 0, _ => (Le.refl _) | 1, _ => (Le.refl _) )) ⟩, trivial⟩⟩⟩) (by exact ⟨by omega, ⟨by omega, ⟨by omega, trivial⟩⟩⟩) (by exact ⟨le_ren (by exact ⟨⟨trivial, trivial⟩, trivial⟩), ⟨(Le.refl _), trivial⟩⟩) (by exact le_unren (by exact trivial)) (by exact ⟨⟨rfl, Nat.le_refl _, fun j hj => match j, hj with | 0, _ => (Le.refl _) | 1, _ => (Le.refl _) ⟩, ⟨⟨rfl, Nat.le_refl _, fun j hj => match j, hj with | 0, _ => (Le.refl _) ⟩, ⟨⟨rfl, Nat.le_refl _, fun j hj => match j, hj with | 0, _ => (Le.fn (fun i hi => absurd hi (by omega)) (fun i hi => match i, hi with | 0, _ => (Le.refl _) | 1, _ => (Le.refl _) )) ⟩, trivial⟩⟩⟩))))⟩), ⟨fun c2 => have c2 : (↑(List.length (List.getD x.l i default).l) : Int) > 5 ∨ List.all (List.getD x.l i default).l (relB x (↑i : Int)) = false := ((cO_t c2).imp (fun h => (of_decide_eq_true h)) (fun h => ((Bool.not_eq_true' _).mp h))); ?_, fun c2 => have c2 : ¬(↑(List.length (List.getD x.l i default).l) : Int) > 5 ∧ List.all (List.getD x.l i default).l (relB x (↑i : Int)) = true := ⟨(of_decide_eq_false (cO_f c2).1), ((Bool.not_eq_false' _).mp (cO_f c2).2)⟩; ⟨(by omega), ?_⟩⟩⟩⟩⟩⟩⟩⟩⟩, fun c1 => have c1 : ¬(↑i : Int) < (↑(List.length x.l) : Int) := (of_decide_eq_false c1); ?_⟩
      · refine ⟨_, To.refl _, (retQ_le (retQ_drop _ _ rfl trivial trivial rfl) (Le.of_eq ?_))⟩
        show (AV.bool false) = _
        have : relsB x i (x.l.getD i default).l = false := by
          unfold relsB
          rcases c2 with h | h
          · have : ¬ (x.l.getD i default).l.length ≤ 5 := by omega
            simp only [this, decide_false, Bool.false_and]
          · rw [h, Bool.and_false]
        unfold formedB
        rw [allN'_false (i := i) (by omega) this]
        simp
      · refine (next_round (i + 1) (to_sel [0] 3 rfl rfl rfl rfl rfl ⟨(Le.refl _), ⟨(Le.refl _), ⟨(Le.refl _), ⟨(Le.refl _), trivial⟩⟩⟩⟩ ⟨⟨rfl, Nat.le_refl _, fun j hj => match j, hj with | 0, _ => (Le.refl _) | 1, _ => (Le.refl _) ⟩, trivial⟩) ?_ ?_)
        · refine ⟨by omega, fun j hj => ?_⟩
          rcases Nat.lt_or_ge j i with h | h
          · exact h2 j h
          · have : j = i := by omega
            subst this
            unfold relsB
            have : (x.l.getD j default).l.length ≤ 5 := by omega
            simp only [this, decide_true, Bool.true_and]
            exact c2.2
        · omega
      · refine ⟨_, To.refl _, vcQ [] (lkL [(11, [2])]) (fun _ => []) (fun (Q : AEx → St R.σ → Prop) => Q AEx.ret (St.mk [(2, AV.bool true)] [cells false 2 (nth [encPacks x, encR gl])] g)) (fun _ => by kernel_rfl) (?_)⟩
        refine (retQ_le (retQ_drop _ _ rfl trivial trivial rfl) (Le.of_eq ?_))
        show (AV.bool true) = _
        have : allN' x.l.length (fun i => relsB x i (x.l.getD i default).l) = true := allN'_true (fun j hj => h2 j (by omega))
        unfold formedB
        rw [this]
        simp [hb]
end Go.Avm.Pack
namespace Go.Avm.Pack
open Go Go.Avm Go.Proofs
open Go.IntKind (i64 u64)
open Go.Avm.AV (int bool any fz fp sl ow ref fn ifc val agg tup)
open Go.Avm.AObj (cells dead)
open Go.Avm.Oc (ret)
set_option maxRecDepth 4000
def checkB (x : Ix) (gl : List Rng) : Bool := formedB x && (decide (gl.length ≤ 4) && gl.all (rangedB x))
theorem Check_all (R : Res) (x : Ix) (gl : KL Rng) (hp : List AObj) (g : R.σ) (hs : small x) (hg : gl.l.length < 1000000) : Does Try.prog R 11 [encIx x, encR gl] hp g (.ret (.int .i64 (if checkB x gl.l then 0 else 2))) hp g := by
  refine does_any' (fun R g => ?_) (by exact ⟨⟨trivial, trivial⟩, ⟨trivial, trivial⟩⟩) R hp g
  refine spec_of_wp (nt := 24) (rs := [.tmp 4]) (k0 := 0) (by kernel_rfl) (by kernel_rfl) (by kernel_rfl) rfl ?_
  refine vcQ [] (lkL [(0, [1, 2]), (1, [1, 5]), (2, [23]), (3, [4]), (4, [4])]) (lkL [(1, [(4, ROrc.val (Orc.obj (nth [encPacks x, encR gl])))]), (2, [(1, ROrc.pcall (AV.bool (formedB x))), (12, ROrc.kcall (AV.bool (List.all gl.l (rangedB x))))])]) (fun (Q : AEx → St R.σ → Prop) => 1 ≤ 1 ∧ 2 ≤ 2 ∧ (∀ (c : Nat), c < 2 → nth [encPacks x, encR gl] c = over (nth [fz Fz.nil 0 0 fun (x x_1 : Nat) => any, fz Fz.nil 0 0 fun (x x_1 : Nat) => any]) 0 2 (List.brecOn (motive := fun (x : List AV) => Nat → AV) [encPacks x, encR gl] nth._f) c) ∧ 2 ≤ 2 ∧ (∀ (hp : List AObj) (g : R.σ), true = true ∧ Does Try.prog R 43 [encMkt x gl] hp g (ret (AV.bool (formedB x))) hp g) ∧ ((!bif !formedB x then true else decide ((↑(List.length gl.l) : Int) > 4)) = true → 2 ≤ 2) ∧ ((!bif !formedB x then true else decide ((↑(List.length gl.l) : Int) > 4)) = true → true = true ∧ Does Try.prog R 44 [encR gl, fn 45 1 (nth [encMkt x gl]) 0 (nth [])] [cells false 1 (nth [encPacks x]), cells false 2 (nth [encPacks x, encR gl])] g (ret (AV.bool (List.all gl.l (rangedB x)))) [cells false 1 (nth [encPacks x]), cells false 2 (nth [encPacks x, encR gl])] g) ∧ ((bif bif !formedB x then true else decide ((↑(List.length gl.l) : Int) > 4) then true else !List.all gl.l (rangedB x)) = true → Q AEx.ret (St.mk [(4, int i64 2)] [cells false 1 (nth [encPacks x]), cells false 2 (nth [encPacks x, encR gl])] g)) ∧ ((bif bif !formedB x then true else decide ((↑(List.length gl.l) : Int) > 4) then true else !List.all gl.l (rangedB x)) = false → Q AEx.ret (St.mk [(4, int i64 0)] [cells false 1 (nth [encPacks x]), cells false 2 (nth [encPacks x, encR gl])] g))) (fun _ => by kernel_rfl) ⟨(by omega), ⟨(by omega), ⟨(fun c hc => match c, hc with | 0, _ => (by kernel_rfl) | 1, _ => (by kernel_rfl) ), ⟨(by omega), ⟨(fun _ _ => ⟨rfl, (Go.Avm.Pack.c_formed _ _ _ _ _ (by omega))⟩), ⟨(by omega), ⟨(fun hgd => ⟨rfl, (Go.Avm.Pack.c_everyF_PackRange _ _ _ _ _ _ _ _ _ _ (by omega) (by kernel_rfl) (fun r _ => (Go.Avm.Pack.c_ranged _ _ _ _ _ _ (by omega))))⟩), ⟨fun c1 => have c1 : (formedB x = false ∨ (↑(List.length gl.l) : Int) > 4) ∨ List.all gl.l (rangedB x) = false := ((cO_t c1).imp (fun h => ((cO_t h).imp (fun h => ((Bool.not_eq_true' _).mp h)) (fun h => (of_decide_eq_true h)))) (fun h => ((Bool.not_eq_true' _).mp h))); ?_, fun c1 => have c1 : (formedB x = true ∧ ¬(↑(List.length gl.l) : Int) > 4) ∧ List.all gl.l (rangedB x) = true := ⟨⟨((Bool.not_eq_false' _).mp (cO_f (cO_f c1).1).1), (of_decide_eq_false (cO_f (cO_f c1).1).2)⟩, ((Bool.not_eq_false' _).mp (cO_f c1).2)⟩; ?_⟩⟩⟩⟩⟩⟩⟩⟩
  · refine (retQ_le (retQ_drop _ _ rfl trivial trivial rfl) (Le.of_eq ?_))
    show (int i64 2) = _
    have : checkB x gl.l = false := by
      unfold checkB
      rcases c1 with (h | h) | h
      · rw [h]; rfl
      · have : ¬ gl.l.length ≤ 4 := by omega
        simp only [this, decide_false, Bool.false_and, Bool.and_false]
      · rw [h, Bool.and_false, Bool.and_false]
    rw [this]; rfl
  · refine (retQ_le (retQ_drop _ _ rfl trivial trivial rfl) (Le.of_eq ?_))
    show (int i64 0) = _
    have : checkB x gl.l = true := by
      unfold checkB
      have : gl.l.length ≤ 4 := by omega
      simp only [this, decide_true, Bool.true_and, c1]
    rw [this]; rfl
theorem c_Check_t (R : Res) (x : Ix) (gl : KL Rng) (hp : List AObj) (g : R.σ) (hc : checkB x gl.l = true) (hs : small x) (hg : gl.l.length < 1000000) : Does Try.prog R 11 [encIx x, encR gl] hp g (.ret (.int .i64 0)) hp g := by
  have := Check_all R x gl hp g hs hg
  rw [hc] at this
  exact this
theorem c_Check_f (R : Res) (x : Ix) (gl : KL Rng) (hp : List AObj) (g : R.σ) (hc : checkB x gl.l = false) (hs : small x) (hg : gl.l.length < 1000000) : Does Try.prog R 11 [encIx x, encR gl] hp g (.ret (.int .i64 2)) hp g := by
  have := Check_all R x gl hp g hs hg
  rw [hc] at this
  exact this
def planOf (l : List Int) (n : Nat) : Nat → Int := fun j => if j < n then l.getD j 0 else 0
def plannedB (x : Ix) (l : List Int) : Bool := decide (l.length = x.l.length) && allN' x.l.length (fun i => decide (-1 ≤ l.getD i 0 ∧ l.getD i 0 < ((x.l.getD i default).l.length : Int)))
theorem plannedB_iff {x : Ix} {l : List Int} : plannedB x l = true ↔ l.length = x.l.length ∧ ∀ j, j < x.l.length → -1 ≤ l.getD j 0 ∧ l.getD j 0 < ((x.l.getD j default).l.length : Int) := by
  unfold plannedB allN'
  simp
theorem c_planned_t (R : Res) (x : Ix) (gl : KL Rng) (l : KL Int) (hp : List AObj) (g : R.σ) (h : plannedB x l.l = true) (hs : small x) (h8 : x.l.length ≤ 8) : Does Try.prog R 46 [encMkt x gl, encI l] hp g (.ret (.tup 2 (nth [encPlan (planOf l.l x.l.length), .bool true]))) hp g := by
  have w1 := hs.1
  have w2 := hs.2
  obtain ⟨hl, hr⟩ := plannedB_iff.1 h
  refine does_any' (fun R g => ?_) (by exact ⟨⟨⟨trivial, trivial⟩, trivial⟩, ⟨trivial, trivial⟩⟩) R hp g
  refine spec_of_wp (nt := 41) (rs := [.cell 4 79, .tmp 5]) (k0 := 0) (by kernel_rfl) (by kernel_rfl) (by kernel_rfl) rfl ?_
  refine vcQ [] (lkL [(0, [1, 2, 4]), (1, [1, 2, 4, 6]), (2, [1, 2, 4, 6, 15]), (3, [4, 5]), (4, [2, 4, 6, 17, 18, 19])]) (lkL [(3, [(1, ROrc.val (Orc.obj (nth [int i64 0, int i64 0, int i64 0, int i64 0, int i64 0, int i64 0, int i64 0, int i64 0])))])]) (fun (Q : AEx → St R.σ → Prop) => 1 ≤ 2 ∧ (((↑(List.length l.l) : Int) != (↑(List.length x.l) : Int)) = true → 8 ≤ 8 ∧ 8 ≤ 8 ∧ (∀ (c : Nat), c < 8 → nth [int i64 0, int i64 0, int i64 0, int i64 0, int i64 0, int i64 0, int i64 0, int i64 0] c = over (nth [int i64 0, int i64 0, int i64 0, int i64 0, int i64 0, int i64 0, int i64 0, int i64 0]) 0 8 (List.brecOn (motive := fun (x : List AV) => Nat → AV) [int i64 0, int i64 0, int i64 0, int i64 0, int i64 0, int i64 0, int i64 0, int i64 0] nth._f) c) ∧ Q AEx.ret (St.mk [(4, ref 1 0), (5, AV.bool false)] [cells false 2 (nth [encPacks x, encR gl]), cells false 8 (nth [int i64 0, int i64 0, int i64 0, int i64 0, int i64 0, int i64 0, int i64 0, int i64 0]), cells false 8 (nth [int i64 0, int i64 0, int i64 0, int i64 0, int i64 0, int i64 0, int i64 0, int i64 0])] g)) ∧ (((↑(List.length l.l) : Int) != (↑(List.length x.l) : Int)) = false → Wp Try.prog R 41 0 Rd.top (bodyOf Try.prog 46) [1, 1, 1, 0, 1, 0] (contQ Try.prog R 41 0 Rd.top (bodyOf Try.prog 46) Q [Kont.blk 0, Kont.seq [1, 1, 1, 1]]) (St.mk [(2, ref 0 0), (4, ref 1 0), (6, ref 2 0), (17, encI l), (18, int i64 (↑(List.length l.l) : Int)), (19, int i64 0)] [cells false 2 (nth [encPacks x, encR gl]), cells false 8 (nth [int i64 0, int i64 0, int i64 0, int i64 0, int i64 0, int i64 0, int i64 0, int i64 0]), cells false 8 (nth [int i64 0, int i64 0, int i64 0, int i64 0, int i64 0, int i64 0, int i64 0, int i64 0])] g))) (fun _ => by kernel_rfl) ⟨(by omega), ⟨fun c1 => have c1 : ¬(↑(List.length l.l) : Int) = (↑(List.length x.l) : Int) := (bne_iff_ne.mp c1); ⟨(by omega), ⟨(by omega), ⟨(fun c hc => match c, hc with | 0, _ => (by kernel_rfl) | 1, _ => (by kernel_rfl) | 2, _ => (by kernel_rfl) | 3, _ => (by kernel_rfl) | 4, _ => (by kernel_rfl) | 5, _ => (by kernel_rfl) | 6, _ => (by kernel_rfl) | 7, _ => (by kernel_rfl) ), ?_⟩⟩⟩, fun c1 => have c1 : (↑(List.length l.l) : Int) = (↑(List.length x.l) : Int) := (bne_eq_false_iff_eq.mp c1); ?_⟩⟩
  · omega
  · refine (wp_loop (by kernel_rfl) (fun (i : Nat) => ⟨[(2, ref 0 0), (4, ref 1 0), (6, ref 2 0), (17, encI l), (18, int i64 (↑(List.length l.l) : Int)), (19, .int .i64 (i : Int))], [.cells false 2 (nth [encPacks x, encR gl]), .cells false 8 (fun _ => .int .i64 0), .cells false 8 (fun j => .int .i64 (planOf l.l i j))], g⟩) (fun (i : Nat) => (i ≤ x.l.length)) (fun (i : Nat) => (x.l.length - i)) 0 (to_le ⟨(Le.refl _), ⟨(Le.refl _), ⟨(Le.refl _), ⟨(Le.refl _), ⟨(Le.refl _), ⟨(Le.of_eq (by kernel_rfl)), trivial⟩⟩⟩⟩⟩⟩ ⟨LeO.rflc, ⟨⟨rfl, Nat.le_refl _, fun j hj => match j, hj with | 0, _ => (Le.refl _) | 1, _ => (Le.refl _) | 2, _ => (Le.refl _) | 3, _ => (Le.refl _) | 4, _ => (Le.refl _) | 5, _ => (Le.refl _) | 6, _ => (Le.refl _) | 7, _ => (Le.refl _) ⟩, ⟨⟨rfl, Nat.le_refl _, fun j hj => match j, hj with | 0, _ => (Le.of_eq (by kernel_rfl)) | 1, _ => (Le.of_eq (by kernel_rfl)) | 2, _ => (Le.of_eq (by kernel_rfl)) | 3, _ => (Le.of_eq (by kernel_rfl)) | 4, _ => (Le.of_eq (by kernel_rfl)) | 5, _ => (Le.of_eq (by kernel_rfl)) | 6, _ => (Le.of_eq (by kernel_rfl)) | 7, _ => (Le.of_eq (by kernel_rfl)) ⟩, trivial⟩⟩⟩ rfl) ?_ (fun i hi => ?_))
    · exact Nat.zero_le _
    · have w3 := w2 i
      refine vcQ [] (lkL [(5, [2, 4, 6, 17, 18, 19, 20]), (6, [2, 4, 6, 7, 8, 17, 18, 19]), (7, [2, 4, 6, 7, 8, 17, 18, 19, 34]), (8, [4, 5]), (9, [2, 4, 6, 17, 18, 19]), (10, [2, 4, 6, 17, 18, 19])]) (lkL [(7, [(9, ROrc.pcall (AV.bool (decide (-1 ≤ List.getD l.l i 0 ∧ List.getD l.l i 0 ≤ (↑(List.length (List.getD x.l i default).l) : Int) - 1))))]), (8, [(1, ROrc.val (Orc.obj fun (j : Nat) => int i64 (planOf l.l i j)))])]) (fun (Q : AEx → St R.σ → Prop) => (decide ((↑i : Int) < (↑(List.length l.l) : Int)) = true → (0 ≤ (↑i : Int) ∧ (↑i : Int) < (↑(List.length l.l) : Int)) ∧ 1 ≤ 1 ∧ 1 ≤ 2 ∧ (0 ≤ (↑i : Int) ∧ (↑i : Int) < (↑(List.length x.l) : Int)) ∧ 1 ≤ 1 ∧ (-9223372036854775808 ≤ (↑(List.length (List.getD x.l i default).l) : Int) - 1 ∧ (↑(List.length (List.getD x.l i default).l) : Int) - 1 ≤ 9223372036854775807) ∧ (∀ (hp : List AObj) (g : R.σ), true = true ∧ Does Try.prog R 70 [int i64 (List.getD l.l i 0), int i64 (-1), int i64 ((↑(List.length (List.getD x.l i default).l) : Int) - 1)] hp g (ret (AV.bool (decide (-1 ≤ List.getD l.l i 0 ∧ List.getD l.l i 0 ≤ (↑(List.length (List.getD x.l i default).l) : Int) - 1)))) hp g) ∧ ((!decide (-1 ≤ List.getD l.l i 0 ∧ List.getD l.l i 0 ≤ (↑(List.length (List.getD x.l i default).l) : Int) - 1)) = true → 8 ≤ 8 ∧ 8 ≤ 8 ∧ (∀ (c : Nat), c < 8 → int i64 (planOf l.l i c) = over (fun (x : Nat) => int i64 0) 0 8 (fun (j : Nat) => int i64 (planOf l.l i j)) c) ∧ Q AEx.ret (St.mk [(4, ref 1 0), (5, AV.bool false)] [cells false 2 (nth [encPacks x, encR gl]), cells false 8 fun (j : Nat) => int i64 (planOf l.l i j), cells false 8 fun (j : Nat) => int i64 (planOf l.l i j)] g)) ∧ ((!decide (-1 ≤ List.getD l.l i 0 ∧ List.getD l.l i 0 ≤ (↑(List.length (List.getD x.l i default).l) : Int) - 1)) = false → (0 ≤ (↑i : Int) ∧ (↑i : Int) < (↑8 : Int)) ∧ i + 1 ≤ 8 ∧ (-9223372036854775808 ≤ (↑i : Int) + 1 ∧ (↑i : Int) + 1 ≤ 9223372036854775807) ∧ Q AEx.normal (St.mk [(2, ref 0 0), (4, ref 1 0), (6, ref 2 0), (17, encI l), (18, int i64 (↑(List.length l.l) : Int)), (19, int i64 ((↑i : Int) + 1))] [cells false 2 (nth [encPacks x, encR gl]), cells false 8 fun (x : Nat) => int i64 0, cells false 8 (over (fun (j : Nat) => int i64 (planOf l.l i j)) i 1 fun (x : Nat) => int i64 (List.getD l.l i 0))] g))) ∧ (decide ((↑i : Int) < (↑(List.length l.l) : Int)) = false → Q (AEx.exit 0) (St.mk [(2, ref 0 0), (4, ref 1 0), (6, ref 2 0), (17, encI l), (18, int i64 (↑(List.length l.l) : Int)), (19, int i64 (↑i : Int)), (20, AV.bool (decide ((↑i : Int) < (↑(List.length l.l) : Int))))] [cells false 2 (nth [encPacks x, encR gl]), cells false 8 fun (x : Nat) => int i64 0, cells false 8 fun (j : Nat) => int i64 (planOf l.l i j)] g))) (fun _ => by kernel_rfl) ⟨fun c1 => have c1 : (↑i : Int) < (↑(List.length l.l) : Int) := (of_decide_eq_true c1); ⟨(by omega), ⟨(by omega), ⟨(by omega), ⟨(by omega), ⟨(by omega), ⟨(by omega), ⟨(fun _ _ => ⟨rfl, (Go.Avm.Pack.c_within _ _ _ _ _ _)⟩), ⟨fun c2 => have c2 : ¬(-1 ≤ List.getD l.l i 0 ∧ List.getD l.l i 0 ≤ (↑(List.length (List.getD x.l i default).l) : Int) - 1) := (of_decide_eq_false ((Bool.not_eq_true' _).mp c2)); ⟨(by omega), ⟨(by omega), ⟨(fun c hc => match c, hc with | 0, _ => (by kernel_rfl) | 1, _ => (by kernel_rfl) | 2, _ => (by kernel_rfl) | 3, _ => (by kernel_rfl) | 4, _ => (by kernel_rfl) | 5, _ => (by kernel_rfl) | 6, _ => (by kernel_rfl) | 7, _ => (by kernel_rfl) ), ?_⟩⟩⟩, fun c2 => have c2 : -1 ≤ List.getD l.l i 0 ∧ List.getD l.l i 0 ≤ (↑(List.length (List.getD x.l i default).l) : Int) - 1 := (of_decide_eq_true ((Bool.not_eq_false' _).mp c2)); ⟨(by omega), ⟨(by omega), ⟨(by omega), ?_⟩⟩⟩⟩⟩⟩⟩⟩⟩⟩⟩, fun c1 => have c1 : ¬(↑i : Int) < (↑(List.length l.l) : Int) := (of_decide_eq_false c1); ?_⟩
      · have := hr i (by omega)
        omega
      · refine (next_round (i + 1) (to_le ⟨(Le.refl _), ⟨(Le.refl _), ⟨(Le.refl _), ⟨(Le.refl _), ⟨(Le.refl _), ⟨(Le.of_eq (by kernel_rfl)), trivial⟩⟩⟩⟩⟩⟩ ⟨LeO.rflc, ⟨LeO.rflc, ⟨(LeO.cells (fun j hj => ?_)), trivial⟩⟩⟩ rfl) ?_ ?_)
        · rw [over_eq]
          unfold planOf
          split
          · rename_i hj
            have : j = i := by omega
            subst this
            rw [if_pos (by omega)]
          · rename_i hj
            by_cases hji : j < i
            · rw [if_pos hji, if_pos (by omega)]
            · rw [if_neg hji, if_neg (by omega)]
        · omega
        · omega
      · have e : i = x.l.length := by omega
        refine ⟨_, To.refl _, vcQ [] (lkL [(11, [4, 5])]) (lkL [(11, [(1, ROrc.val (Orc.obj fun (j : Nat) => int i64 (planOf l.l i j)))])]) (fun (Q : AEx → St R.σ → Prop) => 8 ≤ 8 ∧ 8 ≤ 8 ∧ (∀ (c : Nat), c < 8 → int i64 (planOf l.l i c) = over (fun (x : Nat) => int i64 0) 0 8 (fun (j : Nat) => int i64 (planOf l.l i j)) c) ∧ Q AEx.ret (St.mk [(4, ref 1 0), (5, AV.bool true)] [cells false 2 (nth [encPacks x, encR gl]), cells false 8 fun (j : Nat) => int i64 (planOf l.l i j), cells false 8 fun (j : Nat) => int i64 (planOf l.l i j)] g)) (fun _ => by kernel_rfl) ⟨(by omega), ⟨(by omega), ⟨(fun c hc => match c, hc with | 0, _ => (by kernel_rfl) | 1, _ => (by kernel_rfl) | 2, _ => (by kernel_rfl) | 3, _ => (by kernel_rfl) | 4, _ => (by kernel_rfl) | 5, _ => (by kernel_rfl) | 6, _ => (by kernel_rfl) | 7, _ => (by kernel_rfl) ), ?_⟩⟩⟩⟩
        refine (retQ_le (retQ_drop (tup 2 (nth [agg 8 fun (j : Nat) => int i64 (planOf l.l i j), AV.bool true])) ([0 + (TyI.mk ((fun (x : TypeInfo) => x.desc) Try.prog.types[78]) Try.prog.types[79].size Try.prog.types[79].bytes (cellA (ofVal (Value.agg #[Value.int i64 0, Value.int i64 0, Value.int i64 0, Value.int i64 0, Value.int i64 0, Value.int i64 0, Value.int i64 0, Value.int i64 0]))) (isAggD ((fun (x : TypeInfo) => x.desc) Try.prog.types[78])) (flatTy Try.prog 79)).size ≤ 8]) (by kernel_rfl) (by exact ⟨(by decide), trivial⟩) ⟨⟨trivial, ⟨⟨⟨⟨⟨⟨⟨⟨trivial, trivial⟩, trivial⟩, trivial⟩, trivial⟩, trivial⟩, trivial⟩, trivial⟩, trivial⟩⟩, trivial⟩ rfl) (Le.tup (fun j hj => match j, hj with | 0, _ => (Le.agg (fun j hj => match j, hj with | 0, _ => (Le.of_eq ?_) | 1, _ => (Le.of_eq ?_) | 2, _ => (Le.of_eq ?_) | 3, _ => (Le.of_eq ?_) | 4, _ => (Le.of_eq ?_) | 5, _ => (Le.of_eq ?_) | 6, _ => (Le.of_eq ?_) | 7, _ => (Le.of_eq ?_) )) | 1, _ => (Le.of_eq ?_) )))
        all_goals first | rfl | (show AV.int _ _ = AV.int _ _; rw [e])
theorem c_planned_f (R : Res) (x : Ix) (gl : KL Rng) (l : KL Int) (hp : List AObj) (g : R.σ) (h : plannedB x l.l = false) (hs : small x) (h8 : x.l.length ≤ 8) : Does Try.prog R 46 [encMkt x gl, encI l] hp g (.ret (.tup 2 (nth [.agg 8 (fun _ => .any), .bool false]))) hp g := by
  have w1 := hs.1
  have w2 := hs.2
  refine does_any' (fun R g => ?_) (by exact ⟨⟨⟨trivial, trivial⟩, trivial⟩, ⟨trivial, trivial⟩⟩) R hp g
  refine spec_of_wp (nt := 41) (rs := [.cell 4 79, .tmp 5]) (k0 := 0) (by kernel_rfl) (by kernel_rfl) (by kernel_rfl) rfl ?_
  refine vcQ [] (lkL [(0, [1, 2, 4]), (1, [1, 2, 4, 6]), (2, [1, 2, 4, 6, 15]), (3, [4, 5]), (4, [2, 4, 6, 17, 18, 19])]) (lkL [(3, [(1, ROrc.val (Orc.obj (nth [int i64 0, int i64 0, int i64 0, int i64 0, int i64 0, int i64 0, int i64 0, int i64 0])))])]) (fun (Q : AEx → St R.σ → Prop) => 1 ≤ 2 ∧ (((↑(List.length l.l) : Int) != (↑(List.length x.l) : Int)) = true → 8 ≤ 8 ∧ 8 ≤ 8 ∧ (∀ (c : Nat), c < 8 → nth [int i64 0, int i64 0, int i64 0, int i64 0, int i64 0, int i64 0, int i64 0, int i64 0] c = over (nth [int i64 0, int i64 0, int i64 0, int i64 0, int i64 0, int i64 0, int i64 0, int i64 0]) 0 8 (List.brecOn (motive := fun (x : List AV) => Nat → AV) [int i64 0, int i64 0, int i64 0, int i64 0, int i64 0, int i64 0, int i64 0, int i64 0] nth._f) c) ∧ Q AEx.ret (St.mk [(4, ref 1 0), (5, AV.bool false)] [cells false 2 (nth [encPacks x, encR gl]), cells false 8 (nth [int i64 0, int i64 0, int i64 0, int i64 0, int i64 0, int i64 0, int i64 0, int i64 0]), cells false 8 (nth [int i64 0, int i64 0, int i64 0, int i64 0, int i64 0, int i64 0, int i64 0, int i64 0])] g)) ∧ (((↑(List.length l.l) : Int) != (↑(List.length x.l) : Int)) = false → Wp Try.prog R 41 0 Rd.top (bodyOf Try.prog 46) [1, 1, 1, 0, 1, 0] (contQ Try.prog R 41 0 Rd.top (bodyOf Try.prog 46) Q [Kont.blk 0, Kont.seq [1, 1, 1, 1]]) (St.mk [(2, ref 0 0), (4, ref 1 0), (6, ref 2 0), (17, encI l), (18, int i64 (↑(List.length l.l) : Int)), (19, int i64 0)] [cells false 2 (nth [encPacks x, encR gl]), cells false 8 (nth [int i64 0, int i64 0, int i64 0, int i64 0, int i64 0, int i64 0, int i64 0, int i64 0]), cells false 8 (nth [int i64 0, int i64 0, int i64 0, int i64 0, int i64 0, int i64 0, int i64 0, int i64 0])] g))) (fun _ => by kernel_rfl) ⟨(by omega), ⟨fun c1 => have c1 : ¬(↑(List.length l.l) : Int) = (↑(List.length x.l) : Int) := (bne_iff_ne.mp c1); ⟨(by omega), ⟨(by omega), ⟨(fun c hc => match c, hc with | 0, _ => (by kernel_rfl) | 1, _ => (by kernel_rfl) | 2, _ => (by kernel_rfl) | 3, _ => (by kernel_rfl) | 4, _ => (by kernel_rfl) | 5, _ => (by kernel_rfl) | 6, _ => (by kernel_rfl) | 7, _ => (by kernel_rfl) ), ?_⟩⟩⟩, fun c1 => have c1 : (↑(List.length l.l) : Int) = (↑(List.length x.l) : Int) := (bne_eq_false_iff_eq.mp c1); ?_⟩⟩
  · refine (retQ_le (retQ_drop (tup 2 (nth [agg 8 (nth [int i64 0, int i64 0, int i64 0, int i64 0, int i64 0, int i64 0, int i64 0, int i64 0]), AV.bool false])) ([0 + (TyI.mk ((fun (x : TypeInfo) => x.desc) Try.prog.types[78]) Try.prog.types[79].size Try.prog.types[79].bytes (cellA (ofVal (Value.agg #[Value.int i64 0, Value.int i64 0, Value.int i64 0, Value.int i64 0, Value.int i64 0, Value.int i64 0, Value.int i64 0, Value.int i64 0]))) (isAggD ((fun (x : TypeInfo) => x.desc) Try.prog.types[78])) (flatTy Try.prog 79)).size ≤ 8]) (by kernel_rfl) (by exact ⟨(by decide), trivial⟩) ⟨⟨trivial, ⟨⟨⟨⟨⟨⟨⟨⟨trivial, trivial⟩, trivial⟩, trivial⟩, trivial⟩, trivial⟩, trivial⟩, trivial⟩, trivial⟩⟩, trivial⟩ rfl) (Le.tup (fun j hj => match j, hj with | 0, _ => (Le.agg (fun j hj => match j, hj with | 0, _ => (Le.any _) | 1, _ => (Le.any _) | 2, _ => (Le.any _) | 3, _ => (Le.any _) | 4, _ => (Le.any _) | 5, _ => (Le.any _) | 6, _ => (Le.any _) | 7, _ => (Le.any _) )) | 1, _ => (Le.of_eq (by kernel_rfl)) )))
  · have hl : l.l.length = x.l.length := by omega
    refine (wp_loop (by kernel_rfl) (fun (i : Nat) => ⟨[(2, ref 0 0), (4, ref 1 0), (6, ref 2 0), (17, encI l), (18, int i64 (↑(List.length l.l) : Int)), (19, .int .i64 (i : Int))], [.cells false 2 (nth [encPacks x, encR gl]), .cells false 8 (fun _ => .int .i64 0), .cells false 8 (fun j => .int .i64 (planOf l.l i j))], g⟩) (fun (i : Nat) => (i ≤ x.l.length ∧ ∀ j, j < i → -1 ≤ l.l.getD j 0 ∧ l.l.getD j 0 < ((x.l.getD j default).l.length : Int))) (fun (i : Nat) => (x.l.length - i)) 0 (to_le ⟨(Le.refl _), ⟨(Le.refl _), ⟨(Le.refl _), ⟨(Le.refl _), ⟨(Le.refl _), ⟨(Le.of_eq (by kernel_rfl)), trivial⟩⟩⟩⟩⟩⟩ ⟨LeO.rflc, ⟨⟨rfl, Nat.le_refl _, fun j hj => match j, hj with | 0, _ => (Le.refl _) | 1, _ => (Le.refl _) | 2, _ => (Le.refl _) | 3, _ => (Le.refl _) | 4, _ => (Le.refl _) | 5, _ => (Le.refl _) | 6, _ => (Le.refl _) | 7, _ => (Le.refl _) ⟩, ⟨⟨rfl, Nat.le_refl _, fun j hj => match j, hj with | 0, _ => (Le.of_eq (by kernel_rfl)) | 1, _ => (Le.of_eq (by kernel_rfl)) | 2, _ => (Le.of_eq (by kernel_rfl)) | 3, _ => (Le.of_eq (by kernel_rfl)) | 4, _ => (Le.of_eq (by kernel_rfl)) | 5, _ => (Le.of_eq (by kernel_rfl)) | 6, _ => (Le.of_eq (by kernel_rfl)) | 7, _ => (Le.of_eq (by kernel_rfl)) ⟩, trivial⟩⟩⟩ rfl) ?_ (fun i hi => ?_))
    · exact ⟨Nat.zero_le _, fun j hj => absurd hj (by omega)⟩
    · obtain ⟨h1, h2⟩ := hi
      have w3 := w2 i
      refine vcQ [] (lkL [(5, [2, 4, 6, 17, 18, 19, 20]), (6, [2, 4, 6, 7, 8, 17, 18, 19]), (7, [2, 4, 6, 7, 8, 17, 18, 19, 34]), (8, [4, 5]), (9, [2, 4, 6, 17, 18, 19]), (10, [2, 4, 6, 17, 18, 19])]) (lkL [(7, [(9, ROrc.pcall (AV.bool (decide (-1 ≤ List.getD l.l i 0 ∧ List.getD l.l i 0 ≤ (↑(List.length (List.getD x.l i default).l) : Int) - 1))))]), (8, [(1, ROrc.val (Orc.obj fun (j : Nat) => int i64 (planOf l.l i j)))])]) (fun (Q : AEx → St R.σ → Prop) => (decide ((↑i : Int) < (↑(List.length l.l) : Int)) = true → (0 ≤ (↑i : Int) ∧ (↑i : Int) < (↑(List.length l.l) : Int)) ∧ 1 ≤ 1 ∧ 1 ≤ 2 ∧ (0 ≤ (↑i : Int) ∧ (↑i : Int) < (↑(List.length x.l) : Int)) ∧ 1 ≤ 1 ∧ (-9223372036854775808 ≤ (↑(List.length (List.getD x.l i default).l) : Int) - 1 ∧ (↑(List.length (List.getD x.l i default).l) : Int) - 1 ≤ 9223372036854775807) ∧ (∀ (hp : List AObj) (g : R.σ), true = true ∧ Does Try.prog R 70 [int i64 (List.getD l.l i 0), int i64 (-1), int i64 ((↑(List.length (List.getD x.l i default).l) : Int) - 1)] hp g (ret (AV.bool (decide (-1 ≤ List.getD l.l i 0 ∧ List.getD l.l i 0 ≤ (↑(List.length (List.getD x.l i default).l) : Int) - 1)))) hp g) ∧ ((!decide (-1 ≤ List.getD l.l i 0 ∧ List.getD l.l i 0 ≤ (↑(List.length (List.getD x.l i default).l) : Int) - 1)) = true → 8 ≤ 8 ∧ 8 ≤ 8 ∧ (∀ (c : Nat), c < 8 → int i64 (planOf l.l i c) = over (fun (x : Nat) => int i64 0) 0 8 (fun (j : Nat) => int i64 (planOf l.l i j)) c) ∧ Q AEx.ret (St.mk [(4, ref 1 0), (5, AV.bool false)] [cells false 2 (nth [encPacks x, encR gl]), cells false 8 fun (j : Nat) => int i64 (planOf l.l i j), cells false 8 fun (j : Nat) => int i64 (planOf l.l i j)] g)) ∧ ((!decide (-1 ≤ List.getD l.l i 0 ∧ List.getD l.l i 0 ≤ (↑(List.length (List.getD x.l i default).l) : Int) - 1)) = false → (0 ≤ (↑i : Int) ∧ (↑i : Int) < (↑8 : Int)) ∧ i + 1 ≤ 8 ∧ (-9223372036854775808 ≤ (↑i : Int) + 1 ∧ (↑i : Int) + 1 ≤ 9223372036854775807) ∧ Q AEx.normal (St.mk [(2, ref 0 0), (4, ref 1 0), (6, ref 2 0), (17, encI l), (18, int i64 (↑(List.length l.l) : Int)), (19, int i64 ((↑i : Int) + 1))] [cells false 2 (nth [encPacks x, encR gl]), cells false 8 fun (x : Nat) => int i64 0, cells false 8 (over (fun (j : Nat) => int i64 (planOf l.l i j)) i 1 fun (x : Nat) => int i64 (List.getD l.l i 0))] g))) ∧ (decide ((↑i : Int) < (↑(List.length l.l) : Int)) = false → Q (AEx.exit 0) (St.mk [(2, ref 0 0), (4, ref 1 0), (6, ref 2 0), (17, encI l), (18, int i64 (↑(List.length l.l) : Int)), (19, int i64 (↑i : Int)), (20, AV.bool (decide ((↑i : Int) < (↑(List.length l.l) : Int))))] [cells false 2 (nth [encPacks x, encR gl]), cells false 8 fun (x : Nat) => int i64 0, cells false 8 fun (j : Nat) => int i64 (planOf l.l i j)] g))) (fun _ => by kernel_rfl) ⟨fun c1 => have c1 : (↑i : Int) < (↑(List.length l.l) : Int) := (of_decide_eq_true c1); ⟨(by omega), ⟨(by omega), ⟨(by omega), ⟨(by omega), ⟨(by omega), ⟨(by omega), ⟨(fun _ _ => ⟨rfl, (Go.Avm.Pack.c_within _ _ _ _ _ _)⟩), ⟨fun c2 => have c2 : ¬(-1 ≤ List.getD l.l i 0 ∧ List.getD l.l i 0 ≤ (↑(List.length (List.getD x.l i default).l) : Int) - 1) := (of_decide_eq_false ((Bool.not_eq_true' _).mp c2)); ⟨(by omega), ⟨(by omega), ⟨(fun c hc => match c, hc with | 0, _ => (by kernel_rfl) | 1, _ => (by kernel_rfl) | 2, _ => (by kernel_rfl) | 3, _ => (by kernel_rfl) | 4, _ => (by kernel_rfl) | 5, _ => (by kernel_rfl) | 6, _ => (by kernel_rfl) | 7, _ => (by kernel_rfl) ), ?_⟩⟩⟩, fun c2 => have c2 : -1 ≤ List.getD l.l i 0 ∧ List.getD l.l i 0 ≤ (↑(List.length (List.getD x.l i default).l) : Int) - 1 := (of_decide_eq_true ((Bool.not_eq_false' _).mp c2)); ⟨(by omega), ⟨(by omega), ⟨(by omega), ?_⟩⟩⟩⟩⟩⟩⟩⟩⟩⟩⟩, fun c1 => have c1 : ¬(↑i : Int) < (↑(List.length l.l) : Int) := (of_decide_eq_false c1); ?_⟩
      · refine ⟨_, To.refl _, (retQ_le (retQ_drop (tup 2 (nth [agg 8 fun (j : Nat) => int i64 (planOf l.l i j), AV.bool false])) ([0 + (TyI.mk ((fun (x : TypeInfo) => x.desc) Try.prog.types[78]) Try.prog.types[79].size Try.prog.types[79].bytes (cellA (ofVal (Value.agg #[Value.int i64 0, Value.int i64 0, Value.int i64 0, Value.int i64 0, Value.int i64 0, Value.int i64 0, Value.int i64 0, Value.int i64 0]))) (isAggD ((fun (x : TypeInfo) => x.desc) Try.prog.types[78])) (flatTy Try.prog 79)).size ≤ 8]) (by kernel_rfl) (by exact ⟨(by decide), trivial⟩) ⟨⟨trivial, ⟨⟨⟨⟨⟨⟨⟨⟨trivial, trivial⟩, trivial⟩, trivial⟩, trivial⟩, trivial⟩, trivial⟩, trivial⟩, trivial⟩⟩, trivial⟩ rfl) (Le.tup (fun j hj => match j, hj with | 0, _ => (Le.agg (fun j hj => match j, hj with | 0, _ => (Le.any _) | 1, _ => (Le.any _) | 2, _ => (Le.any _) | 3, _ => (Le.any _) | 4, _ => (Le.any _) | 5, _ => (Le.any _) | 6, _ => (Le.any _) | 7, _ => (Le.any _) )) | 1, _ => (Le.of_eq (by kernel_rfl)) )))⟩
      · refine (next_round (i + 1) (to_le ⟨(Le.refl _), ⟨(Le.refl _), ⟨(Le.refl _), ⟨(Le.refl _), ⟨(Le.refl _), ⟨(Le.of_eq (by kernel_rfl)), trivial⟩⟩⟩⟩⟩⟩ ⟨LeO.rflc, ⟨LeO.rflc, ⟨(LeO.cells (fun j hj => ?_)), trivial⟩⟩⟩ rfl) ?_ ?_)
        · rw [over_eq]
          unfold planOf
          split
          · rename_i hj
            have : j = i := by omega
            subst this
            rw [if_pos (by omega)]
          · rename_i hj
            by_cases hji : j < i
            · rw [if_pos hji, if_pos (by omega)]
            · rw [if_neg hji, if_neg (by omega)]
        · refine ⟨by omega, fun j hj => ?_⟩
          rcases Nat.lt_or_ge j i with h | h
          · exact h2 j h
          · have : j = i := by omega
            subst this
            omega
        · omega
      · have : plannedB x l.l = true := plannedB_iff.2 ⟨hl, fun j hj => h2 j (by omega)⟩
        rw [this] at h; cases h
def noRel : Rel := ⟨⟨[], .nil⟩, ⟨[], .nil⟩⟩
def relOf (x : Ix) (p : Nat → Int) (i : Nat) : Rel := if p i = -1 then noRel else (x.l.getD i default).l.getD (p i).toNat default
theorem c_release_n (R : Res) (x : Ix) (gl : KL Rng) (p : Nat → Int) (i : Nat) (hp : List AObj) (g : R.σ) (h : (p i == -1) = true) (hi : i < 8) : Does Try.prog R 93 [encMkt x gl, encPlan p, .int .i64 i] hp g (.ret (.tup 2 (nth [encRel noRel, .bool false]))) hp g := by
  have h : p i = -1 := by simpa using h
  refine does_any' (fun R g => ?_) (by exact ⟨⟨⟨trivial, trivial⟩, trivial⟩, ⟨⟨⟨⟨⟨⟨⟨⟨⟨trivial, trivial⟩, trivial⟩, trivial⟩, trivial⟩, trivial⟩, trivial⟩, trivial⟩, trivial⟩, ⟨trivial, trivial⟩⟩⟩) R hp g
  refine spec_of_wp (nt := 24) (rs := [.cell 6 68, .tmp 7]) (k0 := 0) (by kernel_rfl) (by kernel_rfl) (by kernel_rfl) rfl ?_
  refine vcQ [] (lkL [(0, [2, 3, 4, 6]), (1, [2, 3, 4, 6, 11]), (2, [6, 7]), (3, [6, 7])]) (lkL [(2, [(1, ROrc.val (Orc.obj (nth [fz Fz.nil 0 0 fun (x x_1 : Nat) => any, fz Fz.nil 0 0 fun (x x_1 : Nat) => any])))]), (3, [(11, ROrc.val (Orc.obj (nth [encR (List.getD (List.getD x.l i default).l (Int.toNat (p i)) default).needs, encR (List.getD (List.getD x.l i default).l (Int.toNat (p i)) default).bars])))])]) (fun (Q : AEx → St R.σ → Prop) => (0 ≤ (↑i : Int) ∧ (↑i : Int) < (↑8 : Int)) ∧ i + 1 ≤ 8 ∧ ((p i == -1) = true → 2 ≤ 2 ∧ (∀ (c : Nat), c < 2 → nth [fz Fz.nil 0 0 fun (x x_2 : Nat) => any, fz Fz.nil 0 0 fun (x x_2 : Nat) => any] c = over (nth [fz Fz.nil 0 0 fun (x x_2 : Nat) => any, fz Fz.nil 0 0 fun (x x_2 : Nat) => any]) 0 2 (List.brecOn (motive := fun (x : List AV) => Nat → AV) [fz Fz.nil 0 0 fun (x x_2 : Nat) => any, fz Fz.nil 0 0 fun (x x_2 : Nat) => any] nth._f) c) ∧ Q AEx.ret (St.mk [(6, ref 2 0), (7, AV.bool false)] [cells false 2 (nth [encPacks x, encR gl]), cells false 8 fun (a : Nat) => int i64 (p a), cells false 2 (nth [fz Fz.nil 0 0 fun (x x_2 : Nat) => any, fz Fz.nil 0 0 fun (x x_2 : Nat) => any])] g)) ∧ ((p i == -1) = false → Tables.follows Try.prog.toTables Departure.mixedOrders = true ∧ 1 ≤ 2 ∧ (0 ≤ (↑i : Int) ∧ (↑i : Int) < (↑(List.length x.l) : Int)) ∧ 1 ≤ 1 ∧ (0 ≤ (↑i : Int) ∧ (↑i : Int) < (↑8 : Int)) ∧ i + 1 ≤ 8 ∧ (0 ≤ p i ∧ p i < (↑(List.length (List.getD x.l i default).l) : Int)) ∧ 2 ≤ 2 ∧ 2 ≤ 2 ∧ (∀ (c : Nat), c < 2 → nth [encR (List.getD (List.getD x.l i default).l (Int.toNat (p i)) default).needs, encR (List.getD (List.getD x.l i default).l (Int.toNat (p i)) default).bars] c = over (nth [fz Fz.nil 0 0 fun (x x_2 : Nat) => any, fz Fz.nil 0 0 fun (x x_2 : Nat) => any]) 0 2 (List.brecOn (motive := fun (x : List AV) => Nat → AV) [encR (List.getD (List.getD x.l i default).l (Int.toNat (p i)) default).needs, encR (List.getD (List.getD x.l i default).l (Int.toNat (p i)) default).bars] nth._f) c) ∧ Q AEx.ret (St.mk [(6, ref 2 0), (7, AV.bool true)] [cells false 2 (nth [encPacks x, encR gl]), cells false 8 fun (a : Nat) => int i64 (p a), cells false 2 (nth [encR (List.getD (List.getD x.l i default).l (Int.toNat (p i)) default).needs, encR (List.getD (List.getD x.l i default).l (Int.toNat (p i)) default).bars])] g))) (fun _ => by kernel_rfl) ⟨(by omega), ⟨(by omega), ⟨fun c1 => have c1 : p i = -1 := (beq_iff_eq.mp c1); ⟨(by omega), ⟨(fun c hc => match c, hc with | 0, _ => (by kernel_rfl) | 1, _ => (by kernel_rfl) ), ?_⟩⟩, fun c1 => have c1 : ¬p i = -1 := (beq_eq_false_iff_ne.mp c1); ⟨(by kernel_rfl), ⟨(by omega), ⟨(by omega), ⟨(by omega), ⟨(by omega), ⟨(by omega), ⟨(by omega), ⟨(by omega), ⟨(by omega), ⟨(fun c hc => match c, hc with | 0, _ => (by kernel_rfl) | 1, _ => (by kernel_rfl) ), ?_⟩⟩⟩⟩⟩⟩⟩⟩⟩⟩⟩⟩⟩
  · refine (retQ_le (retQ_drop (tup 2 (nth [agg 2 (nth [fz Fz.nil 0 0 fun (x x_2 : Nat) => any, fz Fz.nil 0 0 fun (x x_2 : Nat) => any]), AV.bool false])) ([0 + (TyI.mk ((fun (x : TypeInfo) => x.desc) Try.prog.types[67]) Try.prog.types[68].size Try.prog.types[68].bytes (cellA (ofVal (Value.agg #[Value.slice none 0 0, Value.slice none 0 0]))) (isAggD ((fun (x : TypeInfo) => x.desc) Try.prog.types[67])) (flatTy Try.prog 68)).size ≤ 2]) (by kernel_rfl) (by exact ⟨(by decide), trivial⟩) ⟨⟨trivial, ⟨⟨trivial, trivial⟩, trivial⟩⟩, trivial⟩ rfl) (Le.tup (fun j hj => match j, hj with | 0, _ => (Le.agg (fun j hj => match j, hj with | 0, _ => Le.nil | 1, _ => Le.nil )) | 1, _ => (Le.of_eq (by kernel_rfl)) )))
  · omega
theorem c_release_s (R : Res) (x : Ix) (gl : KL Rng) (p : Nat → Int) (i : Nat) (hp : List AObj) (g : R.σ) (h : (p i == -1) = false) (hi : i < 8) (hx : i < x.l.length) (h0 : -1 ≤ p i) (h1 : p i < (x.l.getD i default).l.length) : Does Try.prog R 93 [encMkt x gl, encPlan p, .int .i64 i] hp g (.ret (.tup 2 (nth [encRel ((x.l.getD i default).l.getD (p i).toNat default), .bool true]))) hp g := by
  have h : ¬ p i = -1 := by simpa using h
  refine does_any' (fun R g => ?_) (by exact ⟨⟨⟨trivial, trivial⟩, trivial⟩, ⟨⟨⟨⟨⟨⟨⟨⟨⟨trivial, trivial⟩, trivial⟩, trivial⟩, trivial⟩, trivial⟩, trivial⟩, trivial⟩, trivial⟩, ⟨trivial, trivial⟩⟩⟩) R hp g
  refine spec_of_wp (nt := 24) (rs := [.cell 6 68, .tmp 7]) (k0 := 0) (by kernel_rfl) (by kernel_rfl) (by kernel_rfl) rfl ?_
  refine vcQ [] (lkL [(0, [2, 3, 4, 6]), (1, [2, 3, 4, 6, 11]), (2, [6, 7]), (3, [6, 7])]) (lkL [(2, [(1, ROrc.val (Orc.obj (nth [fz Fz.nil 0 0 fun (x x_1 : Nat) => any, fz Fz.nil 0 0 fun (x x_1 : Nat) => any])))]), (3, [(11, ROrc.val (Orc.obj (nth [encR (List.getD (List.getD x.l i default).l (Int.toNat (p i)) default).needs, encR (List.getD (List.getD x.l i default).l (Int.toNat (p i)) default).bars])))])]) (fun (Q : AEx → St R.σ → Prop) => (0 ≤ (↑i : Int) ∧ (↑i : Int) < (↑8 : Int)) ∧ i + 1 ≤ 8 ∧ ((p i == -1) = true → 2 ≤ 2 ∧ (∀ (c : Nat), c < 2 → nth [fz Fz.nil 0 0 fun (x x_2 : Nat) => any, fz Fz.nil 0 0 fun (x x_2 : Nat) => any] c = over (nth [fz Fz.nil 0 0 fun (x x_2 : Nat) => any, fz Fz.nil 0 0 fun (x x_2 : Nat) => any]) 0 2 (List.brecOn (motive := fun (x : List AV) => Nat → AV) [fz Fz.nil 0 0 fun (x x_2 : Nat) => any, fz Fz.nil 0 0 fun (x x_2 : Nat) => any] nth._f) c) ∧ Q AEx.ret (St.mk [(6, ref 2 0), (7, AV.bool false)] [cells false 2 (nth [encPacks x, encR gl]), cells false 8 fun (a : Nat) => int i64 (p a), cells false 2 (nth [fz Fz.nil 0 0 fun (x x_2 : Nat) => any, fz Fz.nil 0 0 fun (x x_2 : Nat) => any])] g)) ∧ ((p i == -1) = false → Tables.follows Try.prog.toTables Departure.mixedOrders = true ∧ 1 ≤ 2 ∧ (0 ≤ (↑i : Int) ∧ (↑i : Int) < (↑(List.length x.l) : Int)) ∧ 1 ≤ 1 ∧ (0 ≤ (↑i : Int) ∧ (↑i : Int) < (↑8 : Int)) ∧ i + 1 ≤ 8 ∧ (0 ≤ p i ∧ p i < (↑(List.length (List.getD x.l i default).l) : Int)) ∧ 2 ≤ 2 ∧ 2 ≤ 2 ∧ (∀ (c : Nat), c < 2 → nth [encR (List.getD (List.getD x.l i default).l (Int.toNat (p i)) default).needs, encR (List.getD (List.getD x.l i default).l (Int.toNat (p i)) default).bars] c = over (nth [fz Fz.nil 0 0 fun (x x_2 : Nat) => any, fz Fz.nil 0 0 fun (x x_2 : Nat) => any]) 0 2 (List.brecOn (motive := fun (x : List AV) => Nat → AV) [encR (List.getD (List.getD x.l i default).l (Int.toNat (p i)) default).needs, encR (List.getD (List.getD x.l i default).l (Int.toNat (p i)) default).bars] nth._f) c) ∧ Q AEx.ret (St.mk [(6, ref 2 0), (7, AV.bool true)] [cells false 2 (nth [encPacks x, encR gl]), cells false 8 fun (a : Nat) => int i64 (p a), cells false 2 (nth [encR (List.getD (List.getD x.l i default).l (Int.toNat (p i)) default).needs, encR (List.getD (List.getD x.l i default).l (Int.toNat (p i)) default).bars])] g))) (fun _ => by kernel_rfl) ⟨(by omega), ⟨(by omega), ⟨fun c1 => have c1 : p i = -1 := (beq_iff_eq.mp c1); ⟨(by omega), ⟨(fun c hc => match c, hc with | 0, _ => (by kernel_rfl) | 1, _ => (by kernel_rfl) ), ?_⟩⟩, fun c1 => have c1 : ¬p i = -1 := (beq_eq_false_iff_ne.mp c1); ⟨(by kernel_rfl), ⟨(by omega), ⟨(by omega), ⟨(by omega), ⟨(by omega), ⟨(by omega), ⟨(by omega), ⟨(by omega), ⟨(by omega), ⟨(fun c hc => match c, hc with | 0, _ => (by kernel_rfl) | 1, _ => (by kernel_rfl) ), ?_⟩⟩⟩⟩⟩⟩⟩⟩⟩⟩⟩⟩⟩
  · exact absurd c1 h
  · refine (retQ_le (retQ_drop (tup 2 (nth [agg 2 (nth [fz (List.getD (List.getD x.l i default).l (Int.toNat (p i)) default).needs.2 3 (List.length (List.getD (List.getD x.l i default).l (Int.toNat (p i)) default).needs.l) fun (i_1 : Nat) => rngC (List.getD (List.getD (List.getD x.l i default).l (Int.toNat (p i)) default).needs.l i_1 default), fz (List.getD (List.getD x.l i default).l (Int.toNat (p i)) default).bars.2 3 (List.length (List.getD (List.getD x.l i default).l (Int.toNat (p i)) default).bars.l) fun (i_1 : Nat) => rngC (List.getD (List.getD (List.getD x.l i default).l (Int.toNat (p i)) default).bars.l i_1 default)]), AV.bool true])) ([0 + (TyI.mk ((fun (x : TypeInfo) => x.desc) Try.prog.types[67]) Try.prog.types[68].size Try.prog.types[68].bytes (cellA (ofVal (Value.agg #[Value.slice none 0 0, Value.slice none 0 0]))) (isAggD ((fun (x : TypeInfo) => x.desc) Try.prog.types[67])) (flatTy Try.prog 68)).size ≤ 2]) (by kernel_rfl) (by exact ⟨(by decide), trivial⟩) ⟨⟨trivial, ⟨⟨trivial, trivial⟩, trivial⟩⟩, trivial⟩ rfl) (Le.of_eq (by kernel_rfl)))
end Go.Avm.Pack
namespace Go.Avm.Pack
open Go Go.Avm Go.Proofs
open Go.IntKind (i64 u64)
open Go.Avm.AV (int bool any fz fp sl ow ref fn ifc val agg tup)
open Go.Avm.AObj (cells dead)
open Go.Avm.Oc (ret)
set_option maxRecDepth 4000
def rangesB (x : Ix) (l : List Rng) (most : Nat) (own : Int) : Bool := decide (l.length ≤ most) && l.all (otherB x own)
theorem all_take {α : Type} {q : α → Bool} {l : List α} {d : α} (h : ∀ j, j < l.length → q (l.getD j d) = true) : l.all q = true := by
  rw [List.all_eq_true]
  intro a ha
  obtain ⟨j, hj, rfl⟩ := List.getElem_of_mem ha
  have := h j hj
  simpa [List.getD, hj] using this
theorem all_not {α : Type} {q : α → Bool} {l : List α} {d : α} {j : Nat} (hj : j < l.length) (h : q (l.getD j d) = false) : l.all q = false := by
  rw [List.all_eq_false]
  exact ⟨l.getD j d, getD_mem l d hj, by rw [h]; simp⟩
theorem c_ranges (R : Res) (x : Ix) (l : KL Rng) (most : Nat) (own : Int) (hp : List AObj) (g : R.σ) (hs : small x) (hl : l.l.length < 1000000) (hm : most < 1000000) : Does Try.prog R 78 [encIx x, encR l, .int .i64 most, .int .i64 own] hp g (.ret (.bool (rangesB x l.l most own))) hp g := by
  refine does_any' (fun R g => ?_) (by exact ⟨⟨trivial, trivial⟩, ⟨trivial, ⟨trivial, ⟨trivial, trivial⟩⟩⟩⟩) R hp g
  refine spec_of_wp (nt := 41) (rs := [.tmp 8]) (k0 := 0) (by kernel_rfl) (by kernel_rfl) (by kernel_rfl) rfl ?_
  refine vcQ [] (lkL [(0, [1, 2, 3, 4]), (1, [1, 2, 3, 4, 9])]) (fun _ => []) (fun (Q : AEx → St R.σ → Prop) => Wp Try.prog R 41 0 Rd.top (bodyOf Try.prog 78) [1, 0, 1, 0] (contQ Try.prog R 41 0 Rd.top (bodyOf Try.prog 78) Q [Kont.blk 0, Kont.seq [1, 1]]) (St.mk [(1, encR l), (2, int i64 (↑most : Int)), (3, int i64 own), (4, ref 0 0), (9, int i64 0)] [cells false 1 (nth [encPacks x])] g)) (fun _ => by kernel_rfl) (?_)
  refine (wp_loop (by kernel_rfl) (fun (i : Nat) => ⟨[(1, encR l), (2, int i64 (↑most : Int)), (3, int i64 own), (4, ref 0 0), (9, .int .i64 (i : Int))], [cells false 1 (nth [encPacks x])], g⟩) (fun (i : Nat) => (i ≤ l.l.length ∧ ∀ j, j < i → otherB x own (l.l.getD j default) = true)) (fun (i : Nat) => (l.l.length - i)) 0 (to_fr ⟨(Le.refl _), ⟨(Le.refl _), ⟨(Le.refl _), ⟨(Le.refl _), ⟨(Le.of_eq (by kernel_rfl)), trivial⟩⟩⟩⟩⟩ rfl rfl) ?_ (fun i hi => ?_))
  · exact ⟨Nat.zero_le _, fun j hj => absurd hj (by omega)⟩
  · obtain ⟨h1, h2⟩ := hi
    refine vcQ [] (lkL [(2, [1, 2, 3, 4, 9, 18]), (4, [1, 2, 3, 4, 9, 36]), (5, [8]), (3, [1, 2, 3, 4, 9])]) (lkL [(4, [(5, ROrc.pcall (AV.bool (rangedB x (List.getD l.l i default))))])]) (fun (Q : AEx → St R.σ → Prop) => ((bif decide ((↑i : Int) < (↑(List.length l.l) : Int)) then decide ((↑i : Int) < (↑most : Int)) else false) = true → Tables.follows Try.prog.toTables Departure.mixedOrders = true ∧ 1 ≤ 1 ∧ (0 ≤ (↑i : Int) ∧ (↑i : Int) < (↑(List.length l.l) : Int)) ∧ 3 ≤ 3 ∧ (∀ (hp : List AObj) (g : R.σ), true = true ∧ Does Try.prog R 94 [encIx x, encRng (List.getD l.l i default)] hp g (ret (AV.bool (rangedB x (List.getD l.l i default)))) hp g) ∧ ((!!rangedB x (List.getD l.l i default)) = true → 0 ≤ (↑i : Int) ∧ (↑i : Int) < (↑(List.length l.l) : Int)) ∧ ((!!rangedB x (List.getD l.l i default)) = true → 1 ≤ 3) ∧ ((bif !rangedB x (List.getD l.l i default) then true else (List.getD l.l i default).pack == own) = true → Q AEx.ret (St.mk [(8, AV.bool false)] [cells false 1 (nth [encPacks x])] g)) ∧ ((bif !rangedB x (List.getD l.l i default) then true else (List.getD l.l i default).pack == own) = false → (-9223372036854775808 ≤ (↑i : Int) + 1 ∧ (↑i : Int) + 1 ≤ 9223372036854775807) ∧ Q AEx.normal (St.mk [(1, encR l), (2, int i64 (↑most : Int)), (3, int i64 own), (4, ref 0 0), (9, int i64 ((↑i : Int) + 1))] [cells false 1 (nth [encPacks x])] g))) ∧ ((bif decide ((↑i : Int) < (↑(List.length l.l) : Int)) then decide ((↑i : Int) < (↑most : Int)) else false) = false → Q (AEx.exit 0) (St.mk [(1, encR l), (2, int i64 (↑most : Int)), (3, int i64 own), (4, ref 0 0), (9, int i64 (↑i : Int)), (18, AV.bool (bif decide ((↑i : Int) < (↑(List.length l.l) : Int)) then decide ((↑i : Int) < (↑most : Int)) else false))] [cells false 1 (nth [encPacks x])] g))) (fun _ => by kernel_rfl) ⟨fun c1 => have c1 : (↑i : Int) < (↑(List.length l.l) : Int) ∧ (↑i : Int) < (↑most : Int) := ⟨(of_decide_eq_true (cA_t c1).1), (of_decide_eq_true (cA_t c1).2)⟩; ⟨(by kernel_rfl), ⟨(by omega), ⟨(by omega), ⟨(by omega), ⟨(fun _ _ => ⟨rfl, (Go.Avm.Pack.c_Range _ _ _ _ _ (by omega))⟩), ⟨(by omega), ⟨(by omega), ⟨fun c2 => have c2 : rangedB x (List.getD l.l i default) = false ∨ (List.getD l.l i default).pack = own := ((cO_t c2).imp (fun h => ((Bool.not_eq_true' _).mp h)) (fun h => (beq_iff_eq.mp h))); ?_, fun c2 => have c2 : rangedB x (List.getD l.l i default) = true ∧ ¬(List.getD l.l i default).pack = own := ⟨((Bool.not_eq_false' _).mp (cO_f c2).1), (beq_eq_false_iff_ne.mp (cO_f c2).2)⟩; ⟨(by omega), ?_⟩⟩⟩⟩⟩⟩⟩⟩⟩, fun c1 => have c1 : ¬(↑i : Int) < (↑(List.length l.l) : Int) ∨ ¬(↑i : Int) < (↑most : Int) := ((cA_f c1).imp (fun h => (of_decide_eq_false h)) (fun h => (of_decide_eq_false h))); ?_⟩
    · refine ⟨_, To.refl _, (retQ_le (retQ_drop _ _ rfl trivial trivial rfl) (Le.of_eq ?_))⟩
      show (AV.bool false) = _
      have : otherB x own (l.l.getD i default) = false := by
        unfold otherB
        rcases c2 with h | h
        · rw [h]; rfl
        · rw [bne_eq_false_iff_eq.mpr h, Bool.and_false]
      unfold rangesB
      rw [all_not (by omega) this, Bool.and_false]
    · refine (next_round (i + 1) (to_fr ⟨(Le.refl _), ⟨(Le.refl _), ⟨(Le.refl _), ⟨(Le.refl _), ⟨(Le.of_eq (by kernel_rfl)), trivial⟩⟩⟩⟩⟩ rfl rfl) ?_ ?_)
      · refine ⟨by omega, fun j hj => ?_⟩
        rcases Nat.lt_or_ge j i with h | h
        · exact h2 j h
        · have : j = i := by omega
          subst this
          unfold otherB
          rw [c2.1]
          have := c2.2
          simpa using this
      · omega
    · refine ⟨_, To.refl _, vcQ [] (lkL [(6, [8])]) (fun _ => []) (fun (Q : AEx → St R.σ → Prop) => Q AEx.ret (St.mk [(8, AV.bool (decide ((↑(List.length l.l) : Int) ≤ (↑most : Int))))] [cells false 1 (nth [encPacks x])] g)) (fun _ => by kernel_rfl) (?_)⟩
      refine (retQ_le (retQ_drop _ _ rfl trivial trivial rfl) (Le.of_eq ?_))
      show (AV.bool (decide ((↑(List.length l.l) : Int) ≤ (↑most : Int)))) = _
      congr 1
      unfold rangesB
      by_cases hm : l.l.length ≤ most
      · rw [all_take (d := default) (fun j hj => h2 j (by omega))]
        simp [hm]
      · simp [hm]
theorem otherB_neg {x : Ix} {r : Rng} : otherB x (-1) r = rangedB x r := by
  unfold otherB rangedB
  rw [Bool.eq_iff_iff]
  simp
  omega
theorem c_Goals (R : Res) (x : Ix) (l : KL Rng) (hp : List AObj) (g : R.σ) (hs : small x) (hl : l.l.length < 1000000) : Does Try.prog R 49 [encIx x, encR l] hp g (.ret (.bool (decide (l.l.length ≤ 4) && l.l.all (rangedB x)))) hp g := by
  refine does_any' (fun R g => ?_) (by exact ⟨⟨trivial, trivial⟩, ⟨trivial, trivial⟩⟩) R hp g
  refine spec_of_wp (nt := 8) (rs := [.tmp 4]) (k0 := 0) (by kernel_rfl) (by kernel_rfl) (by kernel_rfl) rfl ?_
  refine vcQ [] (lkL [(0, [1, 2]), (1, [4])]) (lkL [(1, [(2, ROrc.pcall (AV.bool (rangesB x l.l 4 (-1))))])]) (fun (Q : AEx → St R.σ → Prop) => 1 ≤ 1 ∧ (∀ (hp : List AObj) (g : R.σ), true = true ∧ Does Try.prog R 78 [encIx x, encR l, int i64 4, int i64 (-1)] hp g (ret (AV.bool (rangesB x l.l 4 (-1)))) hp g) ∧ Q AEx.ret (St.mk [(4, AV.bool (rangesB x l.l 4 (-1)))] [cells false 1 (nth [encPacks x])] g)) (fun _ => by kernel_rfl) ⟨(by omega), ⟨(fun _ _ => ⟨rfl, (Go.Avm.Pack.c_ranges _ _ _ _ _ _ _ (by omega) (by omega) (by decide))⟩), ?_⟩⟩
  refine (retQ_le (retQ_drop _ _ rfl trivial trivial rfl) (Le.of_eq ?_))
  show (AV.bool (rangesB x l.l 4 (-1))) = _
  unfold rangesB
  congr 3
  funext r
  exact otherB_neg
theorem dec4 (n : Nat) : decide ((n : Int) ≤ 4) = decide (n ≤ 4) := by rw [decide_eq_decide]; omega
theorem relB_eq {x : Ix} {i : Int} {r : Rel} : relB x i r = (rangesB x r.needs.l 4 i && rangesB x r.bars.l 4 i) := by
  unfold relB rangesB
  rw [dec4, dec4]
  cases decide (r.needs.l.length ≤ 4) <;> cases decide (r.bars.l.length ≤ 4) <;> cases r.needs.l.all (otherB x i) <;> cases r.bars.l.all (otherB x i) <;> rfl
theorem relsB_of {x : Ix} {i : Int} {l : List Rel} (h : l.length ≤ 5) (h2 : ∀ k, k < l.length → relB x i (l.getD k default) = true) : relsB x i l = true := by
  unfold relsB
  rw [all_take h2]
  simp [h]
theorem relsB_not {x : Ix} {i : Int} {l : List Rel} {k : Nat} (hk : k < l.length) (h2 : relB x i (l.getD k default) = false) : relsB x i l = false := by
  unfold relsB
  rw [all_not hk h2, Bool.and_false]
theorem formedB_not {x : Ix} {i : Nat} (hi : i < x.l.length) (h : relsB x i (x.l.getD i default).l = false) : formedB x = false := by
  unfold formedB
  rw [allN'_false hi h, Bool.and_false]
theorem formedB_of {x : Ix} (h : 1 ≤ x.l.length ∧ x.l.length ≤ 8) (h2 : ∀ i, i < x.l.length → relsB x i (x.l.getD i default).l = true) : formedB x = true := by
  unfold formedB
  rw [allN'_true h2]
  simp [h]
theorem c_Index (R : Res) (x : Ix) (hp : List AObj) (g : R.σ) (hs : small x) (hr : smallR x) : Does Try.prog R 48 [encIx x] hp g (.ret (.bool (formedB x))) hp g := by
  have w1 := hs.1
  have w2 := hs.2
  refine does_any' (fun R g => ?_) (by exact ⟨⟨trivial, trivial⟩, trivial⟩) R hp g
  refine spec_of_wp (nt := 57) (rs := [.tmp 2]) (k0 := 0) (by kernel_rfl) (by kernel_rfl) (by kernel_rfl) rfl ?_
  refine vcQ [] (lkL [(0, [1]), (1, [1, 10]), (2, [2]), (3, [1, 3])]) (lkL [(1, [(3, ROrc.pcall (AV.bool (decide (1 ≤ (↑(List.length x.l) : Int) ∧ (↑(List.length x.l) : Int) ≤ 8))))])]) (fun (Q : AEx → St R.σ → Prop) => 1 ≤ 1 ∧ (∀ (hp : List AObj) (g : R.σ), true = true ∧ Does Try.prog R 50 [int i64 (↑(List.length x.l) : Int), int i64 1, int i64 8] hp g (ret (AV.bool (decide (1 ≤ (↑(List.length x.l) : Int) ∧ (↑(List.length x.l) : Int) ≤ 8)))) hp g) ∧ ((!decide (1 ≤ (↑(List.length x.l) : Int) ∧ (↑(List.length x.l) : Int) ≤ 8)) = true → Q AEx.ret (St.mk [(2, AV.bool false)] [cells false 1 (nth [encPacks x])] g)) ∧ ((!decide (1 ≤ (↑(List.length x.l) : Int) ∧ (↑(List.length x.l) : Int) ≤ 8)) = false → Wp Try.prog R 57 0 Rd.top (bodyOf Try.prog 48) [1, 1, 0, 1, 0] (contQ Try.prog R 57 0 Rd.top (bodyOf Try.prog 48) Q [Kont.blk 0, Kont.seq [1, 1, 1]]) (St.mk [(1, ref 0 0), (3, int i64 0)] [cells false 1 (nth [encPacks x])] g))) (fun _ => by kernel_rfl) ⟨(by omega), ⟨(fun _ _ => ⟨rfl, (Go.Avm.Pack.c_in _ _ _ _ _ _)⟩), ⟨fun c1 => have c1 : ¬(1 ≤ (↑(List.length x.l) : Int) ∧ (↑(List.length x.l) : Int) ≤ 8) := (of_decide_eq_false ((Bool.not_eq_true' _).mp c1)); ?_, fun c1 => have c1 : 1 ≤ (↑(List.length x.l) : Int) ∧ (↑(List.length x.l) : Int) ≤ 8 := (of_decide_eq_true ((Bool.not_eq_false' _).mp c1)); ?_⟩⟩⟩
  · refine (retQ_le (retQ_drop _ _ rfl trivial trivial rfl) (Le.of_eq ?_))
    show (AV.bool false) = _
    congr 1
    unfold formedB
    simp
    omega
  · refine (wp_loop (by kernel_rfl) (fun (i : Nat) => ⟨[(1, ref 0 0), (3, .int .i64 (i : Int))], [cells false 1 (nth [encPacks x])], g⟩) (fun (i : Nat) => (i ≤ x.l.length ∧ ∀ j, j < i → relsB x j (x.l.getD j default).l = true)) (fun (i : Nat) => (x.l.length - i)) 0 (to_fr ⟨(Le.refl _), ⟨(Le.of_eq (by kernel_rfl)), trivial⟩⟩ rfl rfl) ?_ (fun i hi => ?_))
    · exact ⟨Nat.zero_le _, fun j hj => absurd hj (by omega)⟩
    · obtain ⟨h1, h2⟩ := hi
      have w3 := w2 i
      refine vcQ [] (lkL [(4, [1, 3, 15]), (6, [1, 3, 24]), (7, [2]), (8, [1, 3, 4])]) (fun _ => []) (fun (Q : AEx → St R.σ → Prop) => 1 ≤ 1 ∧ (decide ((↑i : Int) < (↑(List.length x.l) : Int)) = true → 1 ≤ 1 ∧ (0 ≤ (↑i : Int) ∧ (↑i : Int) < (↑(List.length x.l) : Int)) ∧ 1 ≤ 1 ∧ (decide ((↑(List.length (List.getD x.l i default).l) : Int) > 5) = true → Q AEx.ret (St.mk [(2, AV.bool false)] [cells false 1 (nth [encPacks x])] g)) ∧ (decide ((↑(List.length (List.getD x.l i default).l) : Int) > 5) = false → Wp Try.prog R 57 0 Rd.top (bodyOf Try.prog 48) [1, 1, 0, 1, 0, 0, 1, 0, 0, 1, 1, 0] (contQ Try.prog R 57 0 Rd.top (bodyOf Try.prog 48) Q [Kont.blk 2, Kont.blk 1, Kont.seq [1, 1, 0, 1, 0, 0, 1, 1]]) (St.mk [(1, ref 0 0), (3, int i64 (↑i : Int)), (4, int i64 0)] [cells false 1 (nth [encPacks x])] g))) ∧ (decide ((↑i : Int) < (↑(List.length x.l) : Int)) = false → Q (AEx.exit 0) (St.mk [(1, ref 0 0), (3, int i64 (↑i : Int)), (15, AV.bool (decide ((↑i : Int) < (↑(List.length x.l) : Int))))] [cells false 1 (nth [encPacks x])] g))) (fun _ => by kernel_rfl) ⟨(by omega), ⟨fun c1 => have c1 : (↑i : Int) < (↑(List.length x.l) : Int) := (of_decide_eq_true c1); ⟨(by omega), ⟨(by omega), ⟨(by omega), ⟨fun c2 => have c2 : (↑(List.length (List.getD x.l i default).l) : Int) > 5 := (of_decide_eq_true c2); ?_, fun c2 => have c2 : ¬(↑(List.length (List.getD x.l i default).l) : Int) > 5 := (of_decide_eq_false c2); ?_⟩⟩⟩⟩, fun c1 => have c1 : ¬(↑i : Int) < (↑(List.length x.l) : Int) := (of_decide_eq_false c1); ?_⟩⟩
      · refine ⟨_, To.refl _, (retQ_le (retQ_drop _ _ rfl trivial trivial rfl) (Le.of_eq ?_))⟩
        show (AV.bool false) = _
        have : relsB x i (x.l.getD i default).l = false := by
          unfold relsB
          have : ¬ (x.l.getD i default).l.length ≤ 5 := by omega
          simp only [this, decide_false, Bool.false_and]
        rw [formedB_not (by omega) this]
      · have hi' := c1
        have h5 := c2
        refine (wp_loop (by kernel_rfl) (fun (k : Nat) => ⟨[(1, ref 0 0), (3, int i64 (↑i : Int)), (4, .int .i64 (k : Int))], [cells false 1 (nth [encPacks x])], g⟩) (fun (k : Nat) => (k ≤ (x.l.getD i default).l.length ∧ ∀ j, j < k → relB x i ((x.l.getD i default).l.getD j default) = true)) (fun (k : Nat) => ((x.l.getD i default).l.length - k)) 0 (to_fr ⟨(Le.refl _), ⟨(Le.refl _), ⟨(Le.of_eq (by kernel_rfl)), trivial⟩⟩⟩ rfl rfl) ?_ (fun k hi => ?_))
        · exact ⟨Nat.zero_le _, fun j hj => absurd hj (by omega)⟩
        · obtain ⟨k1, k2⟩ := hi
          have w4 := hr i k
          refine vcQ [] (lkL [(9, [1, 3, 4, 32]), (11, [1, 3, 4, 5]), (12, [1, 3, 4, 56]), (13, [2]), (10, [1, 3, 4])]) (lkL [(11, [(9, ROrc.val (Orc.obj (nth [encR (List.getD (List.getD x.l i default).l k default).needs, encR (List.getD (List.getD x.l i default).l k default).bars])))]), (12, [(4, ROrc.pcall (AV.bool (rangesB x (List.getD (List.getD x.l i default).l k default).needs.l 4 (↑i : Int)))), (11, ROrc.pcall (AV.bool (rangesB x (List.getD (List.getD x.l i default).l k default).bars.l 4 (↑i : Int))))])]) (fun (Q : AEx → St R.σ → Prop) => 1 ≤ 1 ∧ (0 ≤ (↑i : Int) ∧ (↑i : Int) < (↑(List.length x.l) : Int)) ∧ 1 ≤ 1 ∧ (decide ((↑k : Int) < (↑(List.length (List.getD x.l i default).l) : Int)) = true → 1 ≤ 1 ∧ (0 ≤ (↑i : Int) ∧ (↑i : Int) < (↑(List.length x.l) : Int)) ∧ 1 ≤ 1 ∧ (0 ≤ (↑k : Int) ∧ (↑k : Int) < (↑(List.length (List.getD x.l i default).l) : Int)) ∧ 2 ≤ 2 ∧ 2 ≤ 2 ∧ (∀ (c : Nat), c < 2 → nth [encR (List.getD (List.getD x.l i default).l k default).needs, encR (List.getD (List.getD x.l i default).l k default).bars] c = over (nth [fz Fz.nil 0 0 fun (x x_2 : Nat) => any, fz Fz.nil 0 0 fun (x x_2 : Nat) => any]) 0 2 (List.brecOn (motive := fun (x : List AV) => Nat → AV) [encR (List.getD (List.getD x.l i default).l k default).needs, encR (List.getD (List.getD x.l i default).l k default).bars] nth._f) c) ∧ 1 ≤ 1 ∧ 1 ≤ 2 ∧ (∀ (hp : List AObj) (g : R.σ), true = true ∧ Does Try.prog R 78 [encIx x, encR (List.getD (List.getD x.l i default).l k default).needs, int i64 4, int i64 (↑i : Int)] hp g (ret (AV.bool (rangesB x (List.getD (List.getD x.l i default).l k default).needs.l 4 (↑i : Int)))) hp g) ∧ ((!!rangesB x (List.getD (List.getD x.l i default).l k default).needs.l 4 (↑i : Int)) = true → 1 ≤ 1) ∧ ((!!rangesB x (List.getD (List.getD x.l i default).l k default).needs.l 4 (↑i : Int)) = true → 2 ≤ 2) ∧ ((!!rangesB x (List.getD (List.getD x.l i default).l k default).needs.l 4 (↑i : Int)) = true → ∀ (hp : List AObj) (g : R.σ), true = true ∧ Does Try.prog R 78 [encIx x, encR (List.getD (List.getD x.l i default).l k default).bars, int i64 4, int i64 (↑i : Int)] hp g (ret (AV.bool (rangesB x (List.getD (List.getD x.l i default).l k default).bars.l 4 (↑i : Int)))) hp g) ∧ ((bif !rangesB x (List.getD (List.getD x.l i default).l k default).needs.l 4 (↑i : Int) then true else !rangesB x (List.getD (List.getD x.l i default).l k default).bars.l 4 (↑i : Int)) = true → Q AEx.ret (St.mk [(2, AV.bool false)] [cells false 1 (nth [encPacks x]), cells false 2 (nth [encR (List.getD (List.getD x.l i default).l k default).needs, encR (List.getD (List.getD x.l i default).l k default).bars])] g)) ∧ ((bif !rangesB x (List.getD (List.getD x.l i default).l k default).needs.l 4 (↑i : Int) then true else !rangesB x (List.getD (List.getD x.l i default).l k default).bars.l 4 (↑i : Int)) = false → (-9223372036854775808 ≤ (↑k : Int) + 1 ∧ (↑k : Int) + 1 ≤ 9223372036854775807) ∧ Q AEx.normal (St.mk [(1, ref 0 0), (3, int i64 (↑i : Int)), (4, int i64 ((↑k : Int) + 1))] [cells false 1 (nth [encPacks x]), cells false 2 (nth [encR (List.getD (List.getD x.l i default).l k default).needs, encR (List.getD (List.getD x.l i default).l k default).bars])] g))) ∧ (decide ((↑k : Int) < (↑(List.length (List.getD x.l i default).l) : Int)) = false → Q (AEx.exit 2) (St.mk [(1, ref 0 0), (3, int i64 (↑i : Int)), (4, int i64 (↑k : Int)), (32, AV.bool (decide ((↑k : Int) < (↑(List.length (List.getD x.l i default).l) : Int))))] [cells false 1 (nth [encPacks x])] g))) (fun _ => by kernel_rfl) ⟨(by omega), ⟨(by omega), ⟨(by omega), ⟨fun c1 => have c1 : (↑k : Int) < (↑(List.length (List.getD x.l i default).l) : Int) := (of_decide_eq_true c1); ⟨(by omega), ⟨(by omega), ⟨(by omega), ⟨(by omega), ⟨(by omega), ⟨(by omega), ⟨(fun c hc => match c, hc with | 0, _ => (by kernel_rfl) | 1, _ => (by kernel_rfl) ), ⟨(by omega), ⟨(by omega), ⟨(fun _ _ => ⟨rfl, (Go.Avm.Pack.c_ranges _ _ _ _ _ _ _ (by omega) (by omega) (by decide))⟩), ⟨(by omega), ⟨(by omega), ⟨(fun hgd => (fun _ _ => ⟨rfl, (Go.Avm.Pack.c_ranges _ _ _ _ _ _ _ (by omega) (by omega) (by decide))⟩)), ⟨fun c2 => have c2 : rangesB x (List.getD (List.getD x.l i default).l k default).needs.l 4 (↑i : Int) = false ∨ rangesB x (List.getD (List.getD x.l i default).l k default).bars.l 4 (↑i : Int) = false := ((cO_t c2).imp (fun h => ((Bool.not_eq_true' _).mp h)) (fun h => ((Bool.not_eq_true' _).mp h))); ?_, fun c2 => have c2 : rangesB x (List.getD (List.getD x.l i default).l k default).needs.l 4 (↑i : Int) = true ∧ rangesB x (List.getD (List.getD x.l i default).l k default).bars.l 4 (↑i : Int) = true := ⟨((Bool.not_eq_false' _).mp (cO_f c2).1), ((Bool.not_eq_false' _).mp (cO_f c2).2)⟩; ⟨(by omega), ?_⟩⟩⟩⟩⟩⟩⟩⟩⟩⟩⟩⟩⟩⟩⟩, fun c1 => have c1 : ¬(↑k : Int) < (↑(List.length (List.getD x.l i default).l) : Int) := (of_decide_eq_false c1); ?_⟩⟩⟩⟩
          · refine ⟨_, To.refl _, ⟨_, To.refl _, (retQ_le (retQ_drop _ _ rfl trivial trivial rfl) (Le.of_eq ?_))⟩⟩
            show (AV.bool false) = _
            have : relB x i ((x.l.getD i default).l.getD k default) = false := by
              rw [relB_eq]
              rcases c2 with h | h
              · rw [h]; rfl
              · rw [h, Bool.and_false]
            rw [formedB_not (i := i) (by omega) (relsB_not (k := k) (by omega) this)]
          · refine (next_round (k + 1) (to_sel [0] 2 rfl rfl rfl rfl rfl ⟨(Le.refl _), ⟨(Le.refl _), ⟨(Le.refl _), trivial⟩⟩⟩ ⟨⟨rfl, Nat.le_refl _, fun j hj => match j, hj with | 0, _ => (Le.refl _) ⟩, trivial⟩) ?_ ?_)
            · refine ⟨by omega, fun j hj => ?_⟩
              rcases Nat.lt_or_ge j k with h | h
              · exact k2 j h
              · have : j = k := by omega
                subst this
                rw [relB_eq, c2.1, c2.2]; rfl
            · omega
          · refine ⟨_, To.refl _, vcQ [] (lkL [(5, [1, 3])]) (fun _ => []) (fun (Q : AEx → St R.σ → Prop) => (-9223372036854775808 ≤ (↑i : Int) + 1 ∧ (↑i : Int) + 1 ≤ 9223372036854775807) ∧ Q AEx.normal (St.mk [(1, ref 0 0), (3, int i64 ((↑i : Int) + 1))] [cells false 1 (nth [encPacks x])] g)) (fun _ => by kernel_rfl) ⟨(by omega), ?_⟩⟩
            refine (next_round (i + 1) (to_fr ⟨(Le.refl _), ⟨(Le.of_eq (by kernel_rfl)), trivial⟩⟩ rfl rfl) ?_ ?_)
            · refine ⟨by omega, fun j hj => ?_⟩
              rcases Nat.lt_or_ge j i with h | h
              · exact h2 j h
              · have : j = i := by omega
                subst this
                exact relsB_of (by omega) (fun k' hk' => k2 k' (by omega))
            · omega
      · refine ⟨_, To.refl _, vcQ [] (lkL [(14, [2])]) (fun _ => []) (fun (Q : AEx → St R.σ → Prop) => Q AEx.ret (St.mk [(2, AV.bool true)] [cells false 1 (nth [encPacks x])] g)) (fun _ => by kernel_rfl) (?_)⟩
        refine (retQ_le (retQ_drop _ _ rfl trivial trivial rfl) (Le.of_eq ?_))
        show (AV.bool true) = _
        rw [formedB_of (by omega) (fun j hj => h2 j (by omega))]
theorem c_fine (R : Res) (x : Ix) (l : KL Rng) (hp : List AObj) (g : R.σ) (hs : small x) (hr : smallR x) (hl : l.l.length < 1000000) : Does Try.prog R 13 [encIx x, encR l] hp g (.ret (.bool (checkB x l.l))) hp g := by
  refine does_any' (fun R g => ?_) (by exact ⟨⟨trivial, trivial⟩, ⟨trivial, trivial⟩⟩) R hp g
  refine spec_of_wp (nt := 12) (rs := [.tmp 4]) (k0 := 0) (by kernel_rfl) (by kernel_rfl) (by kernel_rfl) rfl ?_
  refine vcQ [] (lkL [(0, [1, 2]), (1, [4])]) (lkL [(1, [(1, ROrc.pcall (AV.bool (formedB x))), (5, ROrc.pcall (AV.bool (decide (List.length l.l ≤ 4) && List.all l.l (rangedB x))))])]) (fun (Q : AEx → St R.σ → Prop) => 1 ≤ 1 ∧ (∀ (hp : List AObj) (g : R.σ), true = true ∧ Does Try.prog R 48 [encIx x] hp g (ret (AV.bool (formedB x))) hp g) ∧ (formedB x = true → 1 ≤ 1) ∧ (formedB x = true → ∀ (hp : List AObj) (g : R.σ), true = true ∧ Does Try.prog R 49 [encIx x, encR l] hp g (ret (AV.bool (decide (List.length l.l ≤ 4) && List.all l.l (rangedB x)))) hp g) ∧ Q AEx.ret (St.mk [(4, AV.bool (bif formedB x then decide (List.length l.l ≤ 4) && List.all l.l (rangedB x) else false))] [cells false 1 (nth [encPacks x])] g)) (fun _ => by kernel_rfl) ⟨(by omega), ⟨(fun _ _ => ⟨rfl, (Go.Avm.Pack.c_Index _ _ _ _ (by omega) (by omega))⟩), ⟨(by omega), ⟨(fun hgd => (fun _ _ => ⟨rfl, (Go.Avm.Pack.c_Goals _ _ _ _ _ (by omega) (by omega))⟩)), ?_⟩⟩⟩⟩
  refine (retQ_le (retQ_drop _ _ rfl trivial trivial rfl) (Le.of_eq (by kernel_rfl)))
def smallB (x : Ix) (most : Nat) : Bool := !(decide (most < x.l.length) && decide (x.l.length ≤ 8) || decide (9 < x.l.length)) && allN' x.l.length (fun i => decide ((x.l.getD i default).l.length ≤ 6) && allN' (x.l.getD i default).l.length (fun k => decide (((x.l.getD i default).l.getD k default).needs.l.length ≤ 5) && decide (((x.l.getD i default).l.getD k default).bars.l.length ≤ 5)))
theorem smallB_iff {x : Ix} {most : Nat} : smallB x most = true ↔ ((x.l.length ≤ most ∨ 8 < x.l.length) ∧ x.l.length ≤ 9) ∧ ∀ j, j < x.l.length → (x.l.getD j default).l.length ≤ 6 ∧ ∀ k, k < (x.l.getD j default).l.length → ((x.l.getD j default).l.getD k default).needs.l.length ≤ 5 ∧ ((x.l.getD j default).l.getD k default).bars.l.length ≤ 5 := by
  unfold smallB allN'
  simp only [Bool.and_eq_true, List.all_eq_true, List.mem_range, decide_eq_true_eq, Bool.not_eq_true', Bool.or_eq_false_iff, Bool.and_eq_false_iff, decide_eq_false_iff_not]
  constructor
  · rintro ⟨⟨h1, h2⟩, h3⟩
    exact ⟨⟨by omega, by omega⟩, h3⟩
  · rintro ⟨⟨h1, h2⟩, h3⟩
    exact ⟨⟨by omega, by omega⟩, h3⟩
theorem smallB_not {x : Ix} {most : Nat} {i : Nat} (hi : i < x.l.length) (h : 6 < (x.l.getD i default).l.length ∨ ∃ k, k < (x.l.getD i default).l.length ∧ (5 < ((x.l.getD i default).l.getD k default).needs.l.length ∨ 5 < ((x.l.getD i default).l.getD k default).bars.l.length)) : smallB x most = false := by
  rw [Bool.eq_false_iff]
  intro hs
  obtain ⟨_, h2⟩ := smallB_iff.1 hs
  obtain ⟨h3, h4⟩ := h2 i hi
  rcases h with h | ⟨k, hk, h⟩
  · omega
  · have := h4 k hk; omega
theorem smallB_of {x : Ix} {most : Nat} (h1 : ((x.l.length ≤ most ∨ 8 < x.l.length) ∧ x.l.length ≤ 9)) (h2 : ∀ j, j < x.l.length → (x.l.getD j default).l.length ≤ 6 ∧ ∀ k, k < (x.l.getD j default).l.length → ((x.l.getD j default).l.getD k default).needs.l.length ≤ 5 ∧ ((x.l.getD j default).l.getD k default).bars.l.length ≤ 5) : smallB x most = true :=
  smallB_iff.2 ⟨h1, h2⟩
theorem c_Small (R : Res) (x : Ix) (most : Nat) (hp : List AObj) (g : R.σ) (hm : most < 1000000) : Does Try.prog R 9 [encIx x, .int .i64 most] hp g (.ret (.bool (smallB x most))) hp g := by
  refine does_any' (fun R g => ?_) (by exact ⟨⟨trivial, trivial⟩, ⟨trivial, trivial⟩⟩) R hp g
  refine spec_of_wp (nt := 67) (rs := [.tmp 4]) (k0 := 0) (by kernel_rfl) (by kernel_rfl) (by kernel_rfl) rfl ?_
  refine vcQ [] (lkL [(0, [1, 2]), (1, [2, 24]), (2, [4]), (3, [2, 5])]) (fun _ => []) (fun (Q : AEx → St R.σ → Prop) => 1 ≤ 1 ∧ (decide ((↑(List.length x.l) : Int) > (↑most : Int)) = true → 1 ≤ 1) ∧ ((!bif decide ((↑(List.length x.l) : Int) > (↑most : Int)) then decide ((↑(List.length x.l) : Int) ≤ 8) else false) = true → 1 ≤ 1) ∧ ((bif bif decide ((↑(List.length x.l) : Int) > (↑most : Int)) then decide ((↑(List.length x.l) : Int) ≤ 8) else false then true else decide ((↑(List.length x.l) : Int) > 9)) = true → Q AEx.ret (St.mk [(4, AV.bool false)] [cells false 1 (nth [encPacks x])] g)) ∧ ((bif bif decide ((↑(List.length x.l) : Int) > (↑most : Int)) then decide ((↑(List.length x.l) : Int) ≤ 8) else false then true else decide ((↑(List.length x.l) : Int) > 9)) = false → Wp Try.prog R 67 0 Rd.top (bodyOf Try.prog 9) [1, 1, 0, 1, 0] (contQ Try.prog R 67 0 Rd.top (bodyOf Try.prog 9) Q [Kont.blk 0, Kont.seq [1, 1, 1]]) (St.mk [(2, ref 0 0), (5, int i64 0)] [cells false 1 (nth [encPacks x])] g))) (fun _ => by kernel_rfl) ⟨(by omega), ⟨(by omega), ⟨(by omega), ⟨fun c1 => have c1 : (↑(List.length x.l) : Int) > (↑most : Int) ∧ (↑(List.length x.l) : Int) ≤ 8 ∨ (↑(List.length x.l) : Int) > 9 := ((cO_t c1).imp (fun h => ⟨(of_decide_eq_true (cA_t h).1), (of_decide_eq_true (cA_t h).2)⟩) (fun h => (of_decide_eq_true h))); ?_, fun c1 => have c1 : (¬(↑(List.length x.l) : Int) > (↑most : Int) ∨ ¬(↑(List.length x.l) : Int) ≤ 8) ∧ ¬(↑(List.length x.l) : Int) > 9 := ⟨((cA_f (cO_f c1).1).imp (fun h => (of_decide_eq_false h)) (fun h => (of_decide_eq_false h))), (of_decide_eq_false (cO_f c1).2)⟩; ?_⟩⟩⟩⟩
  · refine (retQ_le (retQ_drop _ _ rfl trivial trivial rfl) (Le.of_eq ?_))
    show (AV.bool false) = _
    congr 1
    unfold smallB
    rcases c1 with ⟨h, h'⟩ | h
    · have h1 : most < x.l.length := by omega
      have h2 : x.l.length ≤ 8 := by omega
      simp [h1, h2]
    · have h1 : 9 < x.l.length := by omega
      simp [h1]
  · have hb := c1
    refine (wp_loop (by kernel_rfl) (fun (i : Nat) => ⟨[(2, ref 0 0), (5, .int .i64 (i : Int))], [cells false 1 (nth [encPacks x])], g⟩) (fun (i : Nat) => (i ≤ x.l.length ∧ ∀ j, j < i → (x.l.getD j default).l.length ≤ 6 ∧ ∀ k, k < (x.l.getD j default).l.length → ((x.l.getD j default).l.getD k default).needs.l.length ≤ 5 ∧ ((x.l.getD j default).l.getD k default).bars.l.length ≤ 5)) (fun (i : Nat) => (x.l.length - i)) 0 (to_fr ⟨(Le.refl _), ⟨(Le.of_eq (by kernel_rfl)), trivial⟩⟩ rfl rfl) ?_ (fun i hi => ?_))
    · exact ⟨Nat.zero_le _, fun j hj => absurd hj (by omega)⟩
    · obtain ⟨h1, h2⟩ := hi
      refine vcQ [] (lkL [(4, [2, 5, 29]), (6, [2, 5, 38]), (7, [4]), (8, [2, 5, 6])]) (fun _ => []) (fun (Q : AEx → St R.σ → Prop) => 1 ≤ 1 ∧ (decide ((↑i : Int) < (↑(List.length x.l) : Int)) = true → 1 ≤ 1 ∧ (0 ≤ (↑i : Int) ∧ (↑i : Int) < (↑(List.length x.l) : Int)) ∧ 1 ≤ 1 ∧ (decide ((↑(List.length (List.getD x.l i default).l) : Int) > 6) = true → Q AEx.ret (St.mk [(4, AV.bool false)] [cells false 1 (nth [encPacks x])] g)) ∧ (decide ((↑(List.length (List.getD x.l i default).l) : Int) > 6) = false → Wp Try.prog R 67 0 Rd.top (bodyOf Try.prog 9) [1, 1, 0, 1, 0, 0, 1, 0, 0, 1, 1, 0] (contQ Try.prog R 67 0 Rd.top (bodyOf Try.prog 9) Q [Kont.blk 2, Kont.blk 1, Kont.seq [1, 1, 0, 1, 0, 0, 1, 1]]) (St.mk [(2, ref 0 0), (5, int i64 (↑i : Int)), (6, int i64 0)] [cells false 1 (nth [encPacks x])] g))) ∧ (decide ((↑i : Int) < (↑(List.length x.l) : Int)) = false → Q (AEx.exit 0) (St.mk [(2, ref 0 0), (5, int i64 (↑i : Int)), (29, AV.bool (decide ((↑i : Int) < (↑(List.length x.l) : Int))))] [cells false 1 (nth [encPacks x])] g))) (fun _ => by kernel_rfl) ⟨(by omega), ⟨fun c1 => have c1 : (↑i : Int) < (↑(List.length x.l) : Int) := (of_decide_eq_true c1); ⟨(by omega), ⟨(by omega), ⟨(by omega), ⟨fun c2 => have c2 : (↑(List.length (List.getD x.l i default).l) : Int) > 6 := (of_decide_eq_true c2); ?_, fun c2 => have c2 : ¬(↑(List.length (List.getD x.l i default).l) : Int) > 6 := (of_decide_eq_false c2); ?_⟩⟩⟩⟩, fun c1 => have c1 : ¬(↑i : Int) < (↑(List.length x.l) : Int) := (of_decide_eq_false c1); ?_⟩⟩
      · refine ⟨_, To.refl _, (retQ_le (retQ_drop _ _ rfl trivial trivial rfl) (Le.of_eq ?_))⟩
        show (AV.bool false) = _
        rw [smallB_not (i := i) (by omega) (.inl (by omega))]
      · have hi' := c1
        have h5 := c2
        refine (wp_loop (by kernel_rfl) (fun (k : Nat) => ⟨[(2, ref 0 0), (5, int i64 (↑i : Int)), (6, .int .i64 (k : Int))], [cells false 1 (nth [encPacks x])], g⟩) (fun (k : Nat) => (k ≤ (x.l.getD i default).l.length ∧ ∀ j, j < k → ((x.l.getD i default).l.getD j default).needs.l.length ≤ 5 ∧ ((x.l.getD i default).l.getD j default).bars.l.length ≤ 5)) (fun (k : Nat) => ((x.l.getD i default).l.length - k)) 0 (to_fr ⟨(Le.refl _), ⟨(Le.refl _), ⟨(Le.of_eq (by kernel_rfl)), trivial⟩⟩⟩ rfl rfl) ?_ (fun k hi => ?_))
        · exact ⟨Nat.zero_le _, fun j hj => absurd hj (by omega)⟩
        · obtain ⟨k1, k2⟩ := hi
          refine vcQ [] (lkL [(9, [2, 5, 6, 46]), (11, [2, 5, 6, 7]), (12, [2, 5, 6, 66]), (13, [4]), (10, [2, 5, 6])]) (lkL [(11, [(9, ROrc.val (Orc.obj (nth [encR (List.getD (List.getD x.l i default).l k default).needs, encR (List.getD (List.getD x.l i default).l k default).bars])))])]) (fun (Q : AEx → St R.σ → Prop) => 1 ≤ 1 ∧ (0 ≤ (↑i : Int) ∧ (↑i : Int) < (↑(List.length x.l) : Int)) ∧ 1 ≤ 1 ∧ (decide ((↑k : Int) < (↑(List.length (List.getD x.l i default).l) : Int)) = true → 1 ≤ 1 ∧ (0 ≤ (↑i : Int) ∧ (↑i : Int) < (↑(List.length x.l) : Int)) ∧ 1 ≤ 1 ∧ (0 ≤ (↑k : Int) ∧ (↑k : Int) < (↑(List.length (List.getD x.l i default).l) : Int)) ∧ 2 ≤ 2 ∧ 2 ≤ 2 ∧ (∀ (c : Nat), c < 2 → nth [encR (List.getD (List.getD x.l i default).l k default).needs, encR (List.getD (List.getD x.l i default).l k default).bars] c = over (nth [fz Fz.nil 0 0 fun (x x_2 : Nat) => any, fz Fz.nil 0 0 fun (x x_2 : Nat) => any]) 0 2 (List.brecOn (motive := fun (x : List AV) => Nat → AV) [encR (List.getD (List.getD x.l i default).l k default).needs, encR (List.getD (List.getD x.l i default).l k default).bars] nth._f) c) ∧ 1 ≤ 2 ∧ ((!decide ((↑(List.length (List.getD (List.getD x.l i default).l k default).needs.l) : Int) > 5)) = true → 2 ≤ 2) ∧ ((bif decide ((↑(List.length (List.getD (List.getD x.l i default).l k default).needs.l) : Int) > 5) then true else decide ((↑(List.length (List.getD (List.getD x.l i default).l k default).bars.l) : Int) > 5)) = true → Q AEx.ret (St.mk [(4, AV.bool false)] [cells false 1 (nth [encPacks x]), cells false 2 (nth [encR (List.getD (List.getD x.l i default).l k default).needs, encR (List.getD (List.getD x.l i default).l k default).bars])] g)) ∧ ((bif decide ((↑(List.length (List.getD (List.getD x.l i default).l k default).needs.l) : Int) > 5) then true else decide ((↑(List.length (List.getD (List.getD x.l i default).l k default).bars.l) : Int) > 5)) = false → (-9223372036854775808 ≤ (↑k : Int) + 1 ∧ (↑k : Int) + 1 ≤ 9223372036854775807) ∧ Q AEx.normal (St.mk [(2, ref 0 0), (5, int i64 (↑i : Int)), (6, int i64 ((↑k : Int) + 1))] [cells false 1 (nth [encPacks x]), cells false 2 (nth [encR (List.getD (List.getD x.l i default).l k default).needs, encR (List.getD (List.getD x.l i default).l k default).bars])] g))) ∧ (decide ((↑k : Int) < (↑(List.length (List.getD x.l i default).l) : Int)) = false → Q (AEx.exit 2) (St.mk [(2, ref 0 0), (5, int i64 (↑i : Int)), (6, int i64 (↑k : Int)), (46, AV.bool (decide ((↑k : Int) < (↑(List.length (List.getD x.l i default).l) : Int))))] [cells false 1 (nth [encPacks x])] g))) (fun _ => by kernel_rfl) ⟨(by omega), ⟨(by omega), ⟨(by omega), ⟨fun c1 => have c1 : (↑k : Int) < (↑(List.length (List.getD x.l i default).l) : Int) := (of_decide_eq_true c1); ⟨(by omega), ⟨(by omega), ⟨(by omega), ⟨(by omega), ⟨(by omega), ⟨(by omega), ⟨(fun c hc => match c, hc with | 0, _ => (by kernel_rfl) | 1, _ => (by kernel_rfl) ), ⟨(by omega), ⟨(by omega), ⟨fun c2 => have c2 : (↑(List.length (List.getD (List.getD x.l i default).l k default).needs.l) : Int) > 5 ∨ (↑(List.length (List.getD (List.getD x.l i default).l k default).bars.l) : Int) > 5 := ((cO_t c2).imp (fun h => (of_decide_eq_true h)) (fun h => (of_decide_eq_true h))); ?_, fun c2 => have c2 : ¬(↑(List.length (List.getD (List.getD x.l i default).l k default).needs.l) : Int) > 5 ∧ ¬(↑(List.length (List.getD (List.getD x.l i default).l k default).bars.l) : Int) > 5 := ⟨(of_decide_eq_false (cO_f c2).1), (of_decide_eq_false (cO_f c2).2)⟩; ⟨(by omega), ?_⟩⟩⟩⟩⟩⟩⟩⟩⟩⟩⟩, fun c1 => have c1 : ¬(↑k : Int) < (↑(List.length (List.getD x.l i default).l) : Int) := (of_decide_eq_false c1); ?_⟩⟩⟩⟩
          · refine ⟨_, To.refl _, ⟨_, To.refl _, (retQ_le (retQ_drop _ _ rfl trivial trivial rfl) (Le.of_eq ?_))⟩⟩
            show (AV.bool false) = _
            rw [smallB_not (i := i) (by omega) (.inr ⟨k, by omega, by omega⟩)]
          · refine (next_round (k + 1) (to_sel [0] 2 rfl rfl rfl rfl rfl ⟨(Le.refl _), ⟨(Le.refl _), ⟨(Le.refl _), trivial⟩⟩⟩ ⟨⟨rfl, Nat.le_refl _, fun j hj => match j, hj with | 0, _ => (Le.refl _) ⟩, trivial⟩) ?_ ?_)
            · refine ⟨by omega, fun j hj => ?_⟩
              rcases Nat.lt_or_ge j k with h | h
              · exact k2 j h
              · have : j = k := by omega
                subst this
                omega
            · omega
          · refine ⟨_, To.refl _, vcQ [] (lkL [(5, [2, 5])]) (fun _ => []) (fun (Q : AEx → St R.σ → Prop) => (-9223372036854775808 ≤ (↑i : Int) + 1 ∧ (↑i : Int) + 1 ≤ 9223372036854775807) ∧ Q AEx.normal (St.mk [(2, ref 0 0), (5, int i64 ((↑i : Int) + 1))] [cells false 1 (nth [encPacks x])] g)) (fun _ => by kernel_rfl) ⟨(by omega), ?_⟩⟩
            refine (next_round (i + 1) (to_fr ⟨(Le.refl _), ⟨(Le.of_eq (by kernel_rfl)), trivial⟩⟩ rfl rfl) ?_ ?_)
            · refine ⟨by omega, fun j hj => ?_⟩
              rcases Nat.lt_or_ge j i with h | h
              · exact h2 j h
              · have : j = i := by omega
                subst this
                exact ⟨by omega, fun k' hk' => k2 k' (by omega)⟩
            · omega
      · refine ⟨_, To.refl _, vcQ [] (lkL [(14, [4])]) (fun _ => []) (fun (Q : AEx → St R.σ → Prop) => Q AEx.ret (St.mk [(4, AV.bool true)] [cells false 1 (nth [encPacks x])] g)) (fun _ => by kernel_rfl) (?_)⟩
        refine (retQ_le (retQ_drop _ _ rfl trivial trivial rfl) (Le.of_eq ?_))
        show (AV.bool true) = _
        rw [smallB_of (by omega) (fun j hj => h2 j (by omega))]
end Go.Avm.Pack
namespace Go.Avm.Pack
open Go Go.Avm Go.Proofs
open Go.IntKind (i64 u64)
open Go.Avm.AV (int bool any fz fp sl ow ref fn ifc val agg tup)
open Go.Avm.AObj (cells dead)
open Go.Avm.Oc (ret)
set_option maxRecDepth 4000

theorem ofInt_nat (n : Nat) : BitVec.ofInt 64 (n : Int) = BitVec.ofNat 64 n := by
  apply BitVec.eq_of_toNat_eq
  simp
theorem wrap_nat {n : Nat} (h : n < 2 ^ 64) : IntKind.u64.wrap (n : Int) = n := by
  simp only [IntKind.wrap, IntKind.bits, IntKind.signed]; simp; omega
theorem shr_nat (s i : Nat) (hi : i < 64) : ((s : Int).fdiv (2 ^ min i 64)) = ((s >>> i : Nat) : Int) := by
  rw [Nat.min_eq_left (by omega), Int.fdiv_eq_ediv_of_nonneg _ (by exact Int.le_of_lt (Int.pow_pos (by decide))), Nat.shiftRight_eq_div_pow]
  simp
theorem bit_test (s i : Nat) (hs : s < 2 ^ 64) (hi : i < 64) : IntKind.u64.wrap ↑(BitVec.ofInt 64 ((s : Int).fdiv (2 ^ min i 64)) &&& BitVec.ofInt 64 1).toNat = if s.testBit i then 1 else 0 := by
  rw [shr_nat s i hi, ofInt_nat, show (1 : Int) = ((1 : Nat) : Int) from rfl, ofInt_nat, BitVec.toNat_and, BitVec.toNat_ofNat, BitVec.toNat_ofNat]
  have h1 : s >>> i < 2 ^ 64 := Nat.lt_of_le_of_lt (Nat.shiftRight_le _ _) hs
  rw [Nat.mod_eq_of_lt h1, show (1 % 2 ^ 64 : Nat) = 1 from rfl, Nat.and_one_is_mod]
  have h2 : s.testBit i = decide (s >>> i % 2 = 1) := by
    rw [Nat.testBit_eq_decide_div_mod_eq, Nat.shiftRight_eq_div_pow]
  rw [wrap_nat (by omega), h2]
  rcases Nat.mod_two_eq_zero_or_one (s >>> i) with h | h <;> simp [h]
theorem bit_set (s i : Nat) (hs : s < 2 ^ 64) (hi : i < 64) : IntKind.u64.wrap ↑(BitVec.ofInt 64 (s : Int) ||| BitVec.ofInt 64 (IntKind.u64.wrap (1 * 2 ^ min i 64))).toNat = ((s ||| 2 ^ i : Nat) : Int) := by
  have hp : 2 ^ i < 2 ^ 64 := Nat.pow_lt_pow_right (by decide) hi
  rw [Nat.min_eq_left (by omega), Int.one_mul, show ((2 : Int) ^ i) = ((2 ^ i : Nat) : Int) by simp, wrap_nat hp, ofInt_nat, ofInt_nat, BitVec.toNat_or, BitVec.toNat_ofNat, BitVec.toNat_ofNat, Nat.mod_eq_of_lt hs, Nat.mod_eq_of_lt hp]
  exact wrap_nat (Nat.or_lt_two_pow hs hp)
def room (s : Nat) : Nat := ((List.range 8).filter fun i => !s.testBit i).length
theorem room_le {s t : Nat} (h : ∀ b, s.testBit b = true → t.testBit b = true) : room t ≤ room s := by
  unfold room
  rw [← List.countP_eq_length_filter, ← List.countP_eq_length_filter]
  refine List.countP_mono_left (fun b _ hb => ?_)
  cases hs : s.testBit b with
  | false => rfl
  | true => rw [h b hs] at hb; cases hb
theorem countP_lt {α : Type} {p q : α → Bool} : ∀ {l : List α}, (∀ a ∈ l, q a = true → p a = true) → ∀ {x : α}, x ∈ l → p x = true → q x = false → l.countP q < l.countP p
  | [], _, _, hx, _, _ => by cases hx
  | a :: l, h, x, hx, hp, hq => by
    have mono : l.countP q ≤ l.countP p := List.countP_mono_left (fun b hb h' => h b (List.mem_cons_of_mem _ hb) h')
    rcases List.mem_cons.1 hx with e | e
    · subst e
      rw [List.countP_cons_of_pos hp, List.countP_cons_of_neg (by rw [hq]; simp)]
      omega
    · have := countP_lt (l := l) (fun b hb h' => h b (List.mem_cons_of_mem _ hb) h') e hp hq
      rw [List.countP_cons, List.countP_cons]
      have h1 := h a List.mem_cons_self
      split <;> split <;> first | omega | (rename_i h2 h3; exact absurd (h1 h2) h3)
theorem testBit_set (s i b : Nat) : (s ||| 2 ^ i).testBit b = (s.testBit b || decide (i = b)) := by
  rw [Nat.testBit_or, Nat.testBit_two_pow]
theorem room_set {s i : Nat} (hi : i < 8) (h : s.testBit i = false) : room (s ||| 2 ^ i) < room s := by
  unfold room
  rw [← List.countP_eq_length_filter, ← List.countP_eq_length_filter]
  refine countP_lt (x := i) (fun b _ hb => ?_) (by simpa using hi) (by simp [h]) (by simp [testBit_set])
  rw [testBit_set] at hb
  cases hs : s.testBit b with
  | false => rfl
  | true => rw [hs] at hb; simp at hb
def dfs (x : Ix) (p : Nat → Int) : Nat → Nat → Nat → Nat
  | 0, s, _ => s
  | n + 1, s, i => if s.testBit i then s else (relOf x p i).needs.l.foldl (fun s r => dfs x p n s r.pack.toNat) (s ||| 2 ^ i)
theorem foldl_keep {α : Type} {P : Nat → Prop} {f : Nat → α → Nat} : ∀ {l : List α} {s : Nat}, (∀ s, P s → ∀ a ∈ l, P (f s a)) → P s → P (l.foldl f s)
  | [], _, _, h => h
  | a :: l, s, hf, h => foldl_keep (l := l) (fun s hs b hb => hf s hs b (List.mem_cons_of_mem _ hb)) (hf s h a List.mem_cons_self)
theorem foldl_take_succ {α β : Type} {f : β → α → β} {l : List α} {s : β} {j : Nat} {d : α} (h : j < l.length) : (l.take (j + 1)).foldl f s = f ((l.take j).foldl f s) (l.getD j d) := by
  rw [List.take_succ_eq_append_getElem h, List.foldl_append, List.getD_eq_getElem?_getD, List.getElem?_eq_getElem h]
  rfl
theorem dfs_grows (x : Ix) (p : Nat → Int) : ∀ (n s i : Nat), ∀ b, s.testBit b = true → (dfs x p n s i).testBit b = true
  | 0, _, _, _, h => h
  | n + 1, s, i, b, h => by
    unfold dfs
    split
    · exact h
    · refine foldl_keep (P := fun s => s.testBit b = true) (fun s hs a _ => dfs_grows x p n s _ b hs) ?_
      rw [testBit_set, h]; rfl
theorem or_lt8 {s i : Nat} (hs : s < 2 ^ 8) (hi : i < 8) : s ||| 2 ^ i < 2 ^ 8 := Nat.or_lt_two_pow hs (Nat.pow_lt_pow_right (by decide) hi)
def wfN (x : Ix) (p : Nat → Int) : Prop := ∀ i, i < x.l.length → ∀ r ∈ (relOf x p i).needs.l, 0 ≤ r.pack ∧ r.pack < x.l.length
theorem dfs_lt {x : Ix} {p : Nat → Int} (h8 : x.l.length ≤ 8) (hw : wfN x p) : ∀ (n s i : Nat), i < x.l.length → s < 2 ^ 8 → dfs x p n s i < 2 ^ 8
  | 0, _, _, _, h => h
  | n + 1, s, i, hi, h => by
    unfold dfs
    split
    · exact h
    · refine foldl_keep (P := fun s => s < 2 ^ 8) (fun s hs r hr => ?_) (or_lt8 h (by omega))
      have := hw i hi r hr
      exact dfs_lt h8 hw n s _ (by omega) hs

def inP (x : Ix) (p : Nat → Int) : Prop := ∀ i, i < x.l.length → -1 ≤ p i ∧ p i < ((x.l.getD i default).l.length : Int)
theorem c_release (R : Res) (x : Ix) (gl : KL Rng) (p : Nat → Int) (i : Nat) (hp : List AObj) (g : R.σ) (h8 : x.l.length ≤ 8) (hx : i < x.l.length) (h : inP x p) : Does Try.prog R 93 [encMkt x gl, encPlan p, .int .i64 i] hp g (.ret (.tup 2 (nth [encRel (relOf x p i), .bool (p i != -1)]))) hp g := by
  have h1 := h i hx
  unfold relOf
  by_cases e : p i = -1
  · rw [if_pos e, show (p i != -1) = false by simp [e]]
    exact c_release_n R x gl p i hp g (by simpa using e) (by omega)
  · rw [if_neg e, show (p i != -1) = true by simpa using e]
    exact c_release_s R x gl p i hp g (by simpa using e) (by omega) hx h1.1 h1.2
def hpN (x : Ix) (gl : KL Rng) (p : Nat → Int) (s : Nat) : List AObj := [.cells false 2 (nth [encPacks x, encR gl]), .cells false 8 (fun a => .int .i64 (p a)), .cells false 1 (fun _ => .int .u64 s), .cells false 1 (nth [.fn 98 0 (nth []) 4 (nth [.ref 2 0, .ref 0 0, .ref 1 0, .ref 3 0])])]
def smallN (x : Ix) (p : Nat → Int) : Prop := ∀ i, (relOf x p i).needs.l.length < 1000000
theorem needed1_all (x : Ix) (gl : KL Rng) (p : Nat → Int) (h8 : x.l.length ≤ 8) (h : inP x p) (hw : wfN x p) (hl : smallN x p) (n : Nat) : ∀ (R : Res) (g : R.σ) (k : Int) (s : Nat), 0 ≤ k → k < x.l.length → s < 2 ^ 8 → room s ≤ n → Does Try.prog R 98 [.int .i64 k, .ref 2 0, .ref 0 0, .ref 1 0, .ref 3 0] (hpN x gl p s) g (.ret (.tup 0 (nth []))) (hpN x gl p (dfs x p n s k.toNat)) g := by
  induction n with
  | zero =>
    intro R g k s hk hx hs hr
    obtain ⟨i, rfl⟩ := Int.eq_ofNat_of_zero_le hk
    have hx : i < x.l.length := by omega
    rw [Int.toNat_natCast]
    have ht : s.testBit i = true := by
      cases e : s.testBit i with
      | true => rfl
      | false => have := room_set (s := s) (i := i) (by omega) e; omega
    refine spec_of_wp (nt := 38) (rs := []) (k0 := 4) (by kernel_rfl) (by kernel_rfl) (by kernel_rfl) rfl ?_
    refine vcQ [] (lkL [(0, [0, 1, 2, 3, 4, 14]), (1, [0, 2, 3, 4]), (2, [4, 6]), (3, [4, 27, 28, 29])]) (lkL [(1, [(4, ROrc.val (Orc.obj (nth [int u64 (IntKind.wrap u64 (↑(BitVec.toNat (BitVec.ofInt 64 (↑s : Int) ||| BitVec.ofInt 64 (IntKind.wrap u64 (1 * 2 ^ min i 64)))) : Int))])))]), (2, [(3, ROrc.pcall (tup 2 (nth [encRel (relOf x p i), AV.bool (p i != -1)]))), (8, ROrc.val (Orc.obj (nth [encR (relOf x p i).needs, encR (relOf x p i).bars])))])]) (fun (Q : AEx → St R.σ → Prop) => 1 ≤ 1 ∧ 0 ≤ (↑i : Int) ∧ ((IntKind.wrap u64 (↑(BitVec.toNat (BitVec.ofInt 64 (Int.fdiv (↑s : Int) (2 ^ min i 64)) &&& BitVec.ofInt 64 1)) : Int) == 1) = true → Q AEx.ret (St.mk [(0, int i64 (↑i : Int)), (1, ref 2 0), (2, ref 0 0), (3, ref 1 0), (4, ref 3 0), (14, AV.bool (IntKind.wrap u64 (↑(BitVec.toNat (BitVec.ofInt 64 (Int.fdiv (↑s : Int) (2 ^ min i 64)) &&& BitVec.ofInt 64 1)) : Int) == 1))] [cells false 2 (nth [encPacks x, encR gl]), cells false 8 fun (a : Nat) => int i64 (p a), cells false 1 fun (x : Nat) => int u64 (↑s : Int), cells false 1 (nth [fn 98 0 (nth []) 4 (nth [ref 2 0, ref 0 0, ref 1 0, ref 3 0])])] g)) ∧ ((IntKind.wrap u64 (↑(BitVec.toNat (BitVec.ofInt 64 (Int.fdiv (↑s : Int) (2 ^ min i 64)) &&& BitVec.ofInt 64 1)) : Int) == 1) = false → Tables.follows Try.prog.toTables Departure.mixedOrders = true ∧ 1 ≤ 1 ∧ 0 ≤ (↑i : Int) ∧ 1 ≤ 1 ∧ (∀ (c : Nat), c < 1 → nth [int u64 (IntKind.wrap u64 (↑(BitVec.toNat (BitVec.ofInt 64 (↑s : Int) ||| BitVec.ofInt 64 (IntKind.wrap u64 (1 * 2 ^ min i 64)))) : Int))] c = over (fun (x : Nat) => int u64 (↑s : Int)) 0 1 (fun (x : Nat) => int u64 (IntKind.wrap u64 (↑(BitVec.toNat (BitVec.ofInt 64 (↑s : Int) ||| BitVec.ofInt 64 (IntKind.wrap u64 (1 * 2 ^ min i 64)))) : Int))) c) ∧ 2 ≤ 2 ∧ 8 ≤ 8 ∧ (∀ (hp : List AObj) (g : R.σ), true = true ∧ Does Try.prog R 93 [encMkt x gl, encPlan p, int i64 (↑i : Int)] hp g (ret (tup 2 (nth [encRel (relOf x p i), AV.bool (p i != -1)]))) hp g) ∧ 2 ≤ 2 ∧ (∀ (c : Nat), c < 2 → nth [encR (relOf x p i).needs, encR (relOf x p i).bars] c = over (nth [fz Fz.nil 0 0 fun (x x_2 : Nat) => any, fz Fz.nil 0 0 fun (x x_2 : Nat) => any]) 0 2 (List.brecOn (motive := fun (x : List AV) => Nat → AV) [encR (relOf x p i).needs, encR (relOf x p i).bars] nth._f) c) ∧ 1 ≤ 2 ∧ Wp Try.prog R 38 4 Rd.top (bodyOf Try.prog 98) [1, 1, 1, 1, 0] (contQ Try.prog R 38 4 Rd.top (bodyOf Try.prog 98) Q [Kont.blk 0]) (St.mk [(4, ref 3 0), (27, encR (relOf x p i).needs), (28, int i64 (↑(List.length (relOf x p i).needs.l) : Int)), (29, int i64 0)] [cells false 2 (nth [encPacks x, encR gl]), cells false 8 fun (a : Nat) => int i64 (p a), cells false 1 (nth [int u64 (IntKind.wrap u64 (↑(BitVec.toNat (BitVec.ofInt 64 (↑s : Int) ||| BitVec.ofInt 64 (IntKind.wrap u64 (1 * 2 ^ min i 64)))) : Int))]), cells false 1 (nth [fn 98 0 (nth []) 4 (nth [ref 2 0, ref 0 0, ref 1 0, ref 3 0])]), cells false 2 (nth [encR (relOf x p i).needs, encR (relOf x p i).bars])] g))) (fun _ => by kernel_rfl) ⟨(by omega), ⟨(by omega), ⟨fun c1 => have c1 : IntKind.wrap u64 (↑(BitVec.toNat (BitVec.ofInt 64 (Int.fdiv (↑s : Int) (2 ^ min i 64)) &&& BitVec.ofInt 64 1)) : Int) = 1 := (beq_iff_eq.mp c1); ?_, fun c1 => have c1 : ¬IntKind.wrap u64 (↑(BitVec.toNat (BitVec.ofInt 64 (Int.fdiv (↑s : Int) (2 ^ min i 64)) &&& BitVec.ofInt 64 1)) : Int) = 1 := (beq_eq_false_iff_ne.mp c1); ⟨(by kernel_rfl), ⟨(by omega), ⟨(by omega), ⟨(by omega), ⟨(fun c hc => match c, hc with | 0, _ => (by kernel_rfl) ), ⟨(by omega), ⟨(by omega), ⟨(fun _ _ => ⟨rfl, (Go.Avm.Pack.c_release _ _ _ _ _ _ _ (by omega) (by omega) (by omega))⟩), ⟨(by omega), ⟨(fun c hc => match c, hc with | 0, _ => (by kernel_rfl) | 1, _ => (by kernel_rfl) ), ⟨(by omega), ?_⟩⟩⟩⟩⟩⟩⟩⟩⟩⟩⟩⟩⟩⟩
    · have hd : dfs x p 0 s i = s := rfl
      rw [hd]
      refine (retQ_le (retQ_same' _ _ rfl trivial rfl rfl rfl) (Le.refl _))
    · rw [bit_test s i (by omega) (by omega), ht] at c1
      exact absurd rfl c1
  | succ n ih =>
    intro R g k s hk hx hs hr
    obtain ⟨i, rfl⟩ := Int.eq_ofNat_of_zero_le hk
    have hx : i < x.l.length := by omega
    rw [Int.toNat_natCast]
    refine spec_of_wp (nt := 38) (rs := []) (k0 := 4) (by kernel_rfl) (by kernel_rfl) (by kernel_rfl) rfl ?_
    refine vcQ [] (lkL [(0, [0, 1, 2, 3, 4, 14]), (1, [0, 2, 3, 4]), (2, [4, 6]), (3, [4, 27, 28, 29])]) (lkL [(1, [(4, ROrc.val (Orc.obj (nth [int u64 (IntKind.wrap u64 (↑(BitVec.toNat (BitVec.ofInt 64 (↑s : Int) ||| BitVec.ofInt 64 (IntKind.wrap u64 (1 * 2 ^ min i 64)))) : Int))])))]), (2, [(3, ROrc.pcall (tup 2 (nth [encRel (relOf x p i), AV.bool (p i != -1)]))), (8, ROrc.val (Orc.obj (nth [encR (relOf x p i).needs, encR (relOf x p i).bars])))])]) (fun (Q : AEx → St R.σ → Prop) => 1 ≤ 1 ∧ 0 ≤ (↑i : Int) ∧ ((IntKind.wrap u64 (↑(BitVec.toNat (BitVec.ofInt 64 (Int.fdiv (↑s : Int) (2 ^ min i 64)) &&& BitVec.ofInt 64 1)) : Int) == 1) = true → Q AEx.ret (St.mk [(0, int i64 (↑i : Int)), (1, ref 2 0), (2, ref 0 0), (3, ref 1 0), (4, ref 3 0), (14, AV.bool (IntKind.wrap u64 (↑(BitVec.toNat (BitVec.ofInt 64 (Int.fdiv (↑s : Int) (2 ^ min i 64)) &&& BitVec.ofInt 64 1)) : Int) == 1))] [cells false 2 (nth [encPacks x, encR gl]), cells false 8 fun (a : Nat) => int i64 (p a), cells false 1 fun (x : Nat) => int u64 (↑s : Int), cells false 1 (nth [fn 98 0 (nth []) 4 (nth [ref 2 0, ref 0 0, ref 1 0, ref 3 0])])] g)) ∧ ((IntKind.wrap u64 (↑(BitVec.toNat (BitVec.ofInt 64 (Int.fdiv (↑s : Int) (2 ^ min i 64)) &&& BitVec.ofInt 64 1)) : Int) == 1) = false → Tables.follows Try.prog.toTables Departure.mixedOrders = true ∧ 1 ≤ 1 ∧ 0 ≤ (↑i : Int) ∧ 1 ≤ 1 ∧ (∀ (c : Nat), c < 1 → nth [int u64 (IntKind.wrap u64 (↑(BitVec.toNat (BitVec.ofInt 64 (↑s : Int) ||| BitVec.ofInt 64 (IntKind.wrap u64 (1 * 2 ^ min i 64)))) : Int))] c = over (fun (x : Nat) => int u64 (↑s : Int)) 0 1 (fun (x : Nat) => int u64 (IntKind.wrap u64 (↑(BitVec.toNat (BitVec.ofInt 64 (↑s : Int) ||| BitVec.ofInt 64 (IntKind.wrap u64 (1 * 2 ^ min i 64)))) : Int))) c) ∧ 2 ≤ 2 ∧ 8 ≤ 8 ∧ (∀ (hp : List AObj) (g : R.σ), true = true ∧ Does Try.prog R 93 [encMkt x gl, encPlan p, int i64 (↑i : Int)] hp g (ret (tup 2 (nth [encRel (relOf x p i), AV.bool (p i != -1)]))) hp g) ∧ 2 ≤ 2 ∧ (∀ (c : Nat), c < 2 → nth [encR (relOf x p i).needs, encR (relOf x p i).bars] c = over (nth [fz Fz.nil 0 0 fun (x x_2 : Nat) => any, fz Fz.nil 0 0 fun (x x_2 : Nat) => any]) 0 2 (List.brecOn (motive := fun (x : List AV) => Nat → AV) [encR (relOf x p i).needs, encR (relOf x p i).bars] nth._f) c) ∧ 1 ≤ 2 ∧ Wp Try.prog R 38 4 Rd.top (bodyOf Try.prog 98) [1, 1, 1, 1, 0] (contQ Try.prog R 38 4 Rd.top (bodyOf Try.prog 98) Q [Kont.blk 0]) (St.mk [(4, ref 3 0), (27, encR (relOf x p i).needs), (28, int i64 (↑(List.length (relOf x p i).needs.l) : Int)), (29, int i64 0)] [cells false 2 (nth [encPacks x, encR gl]), cells false 8 fun (a : Nat) => int i64 (p a), cells false 1 (nth [int u64 (IntKind.wrap u64 (↑(BitVec.toNat (BitVec.ofInt 64 (↑s : Int) ||| BitVec.ofInt 64 (IntKind.wrap u64 (1 * 2 ^ min i 64)))) : Int))]), cells false 1 (nth [fn 98 0 (nth []) 4 (nth [ref 2 0, ref 0 0, ref 1 0, ref 3 0])]), cells false 2 (nth [encR (relOf x p i).needs, encR (relOf x p i).bars])] g))) (fun _ => by kernel_rfl) ⟨(by omega), ⟨(by omega), ⟨fun c1 => have c1 : IntKind.wrap u64 (↑(BitVec.toNat (BitVec.ofInt 64 (Int.fdiv (↑s : Int) (2 ^ min i 64)) &&& BitVec.ofInt 64 1)) : Int) = 1 := (beq_iff_eq.mp c1); ?_, fun c1 => have c1 : ¬IntKind.wrap u64 (↑(BitVec.toNat (BitVec.ofInt 64 (Int.fdiv (↑s : Int) (2 ^ min i 64)) &&& BitVec.ofInt 64 1)) : Int) = 1 := (beq_eq_false_iff_ne.mp c1); ⟨(by kernel_rfl), ⟨(by omega), ⟨(by omega), ⟨(by omega), ⟨(fun c hc => match c, hc with | 0, _ => (by kernel_rfl) ), ⟨(by omega), ⟨(by omega), ⟨(fun _ _ => ⟨rfl, (Go.Avm.Pack.c_release _ _ _ _ _ _ _ (by omega) (by omega) (by omega))⟩), ⟨(by omega), ⟨(fun c hc => match c, hc with | 0, _ => (by kernel_rfl) | 1, _ => (by kernel_rfl) ), ⟨(by omega), ?_⟩⟩⟩⟩⟩⟩⟩⟩⟩⟩⟩⟩⟩⟩
    · have ht : s.testBit i = true := by
        rw [bit_test s i (by omega) (by omega)] at c1
        cases e : s.testBit i with
        | true => rfl
        | false => rw [e] at c1; simp at c1
      have hd : dfs x p (n + 1) s i = s := by unfold dfs; rw [if_pos ht]
      rw [hd]
      refine (retQ_le (retQ_same' _ _ rfl trivial rfl rfl rfl) (Le.refl _))
    · have ht : s.testBit i = false := by
        rw [bit_test s i (by omega) (by omega)] at c1
        cases e : s.testBit i with
        | false => rfl
        | true => rw [e] at c1; simp at c1
      have hroom := room_set (by omega) ht
      have hlen := hl i
      have hS : ∀ j, room (((relOf x p i).needs.l.take j).foldl (fun s r => dfs x p n s r.pack.toNat) (s ||| 2 ^ i)) ≤ n ∧ ((relOf x p i).needs.l.take j).foldl (fun s r => dfs x p n s r.pack.toNat) (s ||| 2 ^ i) < 2 ^ 8 := by
        intro j
        refine ⟨Nat.le_trans (room_le (s := s ||| 2 ^ i) (fun b hb => ?_)) (by omega), ?_⟩
        · exact foldl_keep (P := fun s => s.testBit b = true) (fun s hs a _ => dfs_grows x p n s _ b hs) hb
        · refine foldl_keep (P := fun s => s < 2 ^ 8) (fun s hs r hr => ?_) (or_lt8 hs (by omega))
          have := hw i hx r (List.mem_of_mem_take hr)
          exact dfs_lt h8 hw n s _ (by omega) hs
      refine (wp_loop (by kernel_rfl) (fun (j : Nat) => ⟨[(4, ref 3 0), (27, encR (relOf x p i).needs), (28, int i64 (↑(List.length (relOf x p i).needs.l) : Int)), (29, .int .i64 (j : Int))], (hpN x gl p (((relOf x p i).needs.l.take j).foldl (fun s r => dfs x p n s r.pack.toNat) (s ||| 2 ^ i)) ++ [AObj.dead]), g⟩) (fun (j : Nat) => (j ≤ (relOf x p i).needs.l.length)) (fun (j : Nat) => ((relOf x p i).needs.l.length - j)) 0 (to_le ⟨(Le.refl _), ⟨(Le.refl _), ⟨(Le.refl _), ⟨(Le.of_eq (by kernel_rfl)), trivial⟩⟩⟩⟩ ⟨LeO.rflc, ⟨LeO.rflc, ⟨⟨rfl, Nat.le_refl _, fun j hj => match j, hj with | 0, _ => (Le.of_eq ?_) ⟩, ⟨LeO.rflc, ⟨(LeO.dead _), trivial⟩⟩⟩⟩⟩ rfl) ?_ (fun j hi => ?_))
      · exact congrArg (AV.int IntKind.u64) (bit_set s i (by omega) (by omega))
      · exact Nat.zero_le _
      · obtain ⟨hS1, hS2⟩ := hS j
        have hj : j < (relOf x p i).needs.l.length → 0 ≤ ((relOf x p i).needs.l.getD j default).pack ∧ ((relOf x p i).needs.l.getD j default).pack < x.l.length := fun hj => hw i hx _ (getD_mem _ _ hj)
        refine vcQ [] (lkL [(4, [4, 27, 28, 29, 30]), (5, [4, 9, 27, 28, 29]), (6, [4, 27, 28, 29]), (7, [4, 27, 28, 29])]) (lkL [(5, [(3, ROrc.val (Orc.obj (nth [int i64 (List.getD (relOf x p i).needs.l j default).pack, int i64 (List.getD (relOf x p i).needs.l j default).low, int i64 (List.getD (relOf x p i).needs.l j default).high])))]), (6, [(3, ROrc.call (tup 0 fun (j : Nat) => any) [cells false 2 (nth [encPacks x, encR gl]), cells false 8 fun (a : Nat) => int i64 (p a), cells false 1 fun (j_1 : Nat) => int u64 (↑(dfs x p n (List.foldl (fun (s : Nat) (r : Rng) => dfs x p n s (Int.toNat r.pack)) (s ||| 2 ^ i) (List.take j (relOf x p i).needs.l)) (Int.toNat (List.getD (relOf x p i).needs.l j default).pack)) : Int), cells false 1 (nth [fn 98 0 (nth []) 4 (nth [ref 2 0, ref 0 0, ref 1 0, ref 3 0])]), dead, cells false 3 (nth [int i64 (List.getD (relOf x p i).needs.l j default).pack, int i64 (List.getD (relOf x p i).needs.l j default).low, int i64 (List.getD (relOf x p i).needs.l j default).high])] g)])]) (fun (Q : AEx → St R.σ → Prop) => (decide ((↑j : Int) < (↑(List.length (relOf x p i).needs.l) : Int)) = true → (0 ≤ (↑j : Int) ∧ (↑j : Int) < (↑(List.length (relOf x p i).needs.l) : Int)) ∧ 3 ≤ 3 ∧ 3 ≤ 3 ∧ (∀ (c : Nat), c < 3 → nth [int i64 (List.getD (relOf x p i).needs.l j default).pack, int i64 (List.getD (relOf x p i).needs.l j default).low, int i64 (List.getD (relOf x p i).needs.l j default).high] c = over (nth [int i64 0, int i64 0, int i64 0]) 0 3 (List.brecOn (motive := fun (x : List AV) => Nat → AV) [int i64 (List.getD (relOf x p i).needs.l j default).pack, int i64 (List.getD (relOf x p i).needs.l j default).low, int i64 (List.getD (relOf x p i).needs.l j default).high] nth._f) c) ∧ 1 ≤ 1 ∧ 1 ≤ 3 ∧ (true = true ∧ Does Try.prog R 98 [int i64 (List.getD (relOf x p i).needs.l j default).pack, ref 2 0, ref 0 0, ref 1 0, ref 3 0] [cells false 2 (nth [encPacks x, encR gl]), cells false 8 fun (a : Nat) => int i64 (p a), cells false 1 fun (x_2 : Nat) => int u64 (↑(List.foldl (fun (s : Nat) (r : Rng) => dfs x p n s (Int.toNat r.pack)) (s ||| 2 ^ i) (List.take j (relOf x p i).needs.l)) : Int), cells false 1 (nth [fn 98 0 (nth []) 4 (nth [ref 2 0, ref 0 0, ref 1 0, ref 3 0])]), dead, cells false 3 (nth [int i64 (List.getD (relOf x p i).needs.l j default).pack, int i64 (List.getD (relOf x p i).needs.l j default).low, int i64 (List.getD (relOf x p i).needs.l j default).high])] g (ret (tup 0 fun (j : Nat) => any)) [cells false 2 (nth [encPacks x, encR gl]), cells false 8 fun (a : Nat) => int i64 (p a), cells false 1 fun (j_1 : Nat) => int u64 (↑(dfs x p n (List.foldl (fun (s : Nat) (r : Rng) => dfs x p n s (Int.toNat r.pack)) (s ||| 2 ^ i) (List.take j (relOf x p i).needs.l)) (Int.toNat (List.getD (relOf x p i).needs.l j default).pack)) : Int), cells false 1 (nth [fn 98 0 (nth []) 4 (nth [ref 2 0, ref 0 0, ref 1 0, ref 3 0])]), dead, cells false 3 (nth [int i64 (List.getD (relOf x p i).needs.l j default).pack, int i64 (List.getD (relOf x p i).needs.l j default).low, int i64 (List.getD (relOf x p i).needs.l j default).high])] g) ∧ (-9223372036854775808 ≤ (↑j : Int) + 1 ∧ (↑j : Int) + 1 ≤ 9223372036854775807) ∧ Q AEx.normal (St.mk [(4, ref 3 0), (27, encR (relOf x p i).needs), (28, int i64 (↑(List.length (relOf x p i).needs.l) : Int)), (29, int i64 ((↑j : Int) + 1))] [cells false 2 (nth [encPacks x, encR gl]), cells false 8 fun (a : Nat) => int i64 (p a), cells false 1 fun (j_1 : Nat) => int u64 (↑(dfs x p n (List.foldl (fun (s : Nat) (r : Rng) => dfs x p n s (Int.toNat r.pack)) (s ||| 2 ^ i) (List.take j (relOf x p i).needs.l)) (Int.toNat (List.getD (relOf x p i).needs.l j default).pack)) : Int), cells false 1 (nth [fn 98 0 (nth []) 4 (nth [ref 2 0, ref 0 0, ref 1 0, ref 3 0])]), dead, cells false 3 (nth [int i64 (List.getD (relOf x p i).needs.l j default).pack, int i64 (List.getD (relOf x p i).needs.l j default).low, int i64 (List.getD (relOf x p i).needs.l j default).high])] g)) ∧ (decide ((↑j : Int) < (↑(List.length (relOf x p i).needs.l) : Int)) = false → Q (AEx.exit 0) (St.mk [(4, ref 3 0), (27, encR (relOf x p i).needs), (28, int i64 (↑(List.length (relOf x p i).needs.l) : Int)), (29, int i64 (↑j : Int)), (30, AV.bool (decide ((↑j : Int) < (↑(List.length (relOf x p i).needs.l) : Int))))] [cells false 2 (nth [encPacks x, encR gl]), cells false 8 fun (a : Nat) => int i64 (p a), cells false 1 fun (x_2 : Nat) => int u64 (↑(List.foldl (fun (s : Nat) (r : Rng) => dfs x p n s (Int.toNat r.pack)) (s ||| 2 ^ i) (List.take j (relOf x p i).needs.l)) : Int), cells false 1 (nth [fn 98 0 (nth []) 4 (nth [ref 2 0, ref 0 0, ref 1 0, ref 3 0])]), dead] g))) (fun _ => by kernel_rfl) ⟨fun c1 => have c1 : (↑j : Int) < (↑(List.length (relOf x p i).needs.l) : Int) := (of_decide_eq_true c1); ⟨(by omega), ⟨(by omega), ⟨(by omega), ⟨(fun c hc => match c, hc with | 0, _ => (by kernel_rfl) | 1, _ => (by kernel_rfl) | 2, _ => (by kernel_rfl) ), ⟨(by omega), ⟨(by omega), ⟨⟨rfl, (does_sub' [0, 1, 2, 3] 6 (fun R g => ih R g ((List.getD (relOf x p i).needs.l j default).pack) (List.foldl (fun (s : Nat) (r : Rng) => dfs x p n s (Int.toNat r.pack)) (s ||| 2 ^ i) (List.take j (relOf x p i).needs.l)) (by simp at * <;> omega) (by simp at * <;> omega) (by omega) (by omega)) rfl rfl rfl (by exact ⟨⟨rfl, Nat.le_refl _, fun j hj => match j, hj with | 0, _ => (Le.refl _) | 1, _ => (Le.refl _) ⟩, ⟨⟨rfl, Nat.le_refl _, fun j hj => match j, hj with | 0, _ => (Le.refl _) | 1, _ => (Le.refl _) | 2, _ => (Le.refl _) | 3, _ => (Le.refl _) | 4, _ => (Le.refl _) | 5, _ => (Le.refl _) | 6, _ => (Le.refl _) | 7, _ => (Le.refl _) ⟩, ⟨⟨rfl, Nat.le_refl _, fun j hj => match j, hj with | 0, _ => (Le.refl _) ⟩, ⟨⟨rfl, Nat.le_refl _, fun j hj => match j, hj with | 0, _ => (Le.fn (fun i hi => absurd hi (by omega)) (fun i hi => match i, hi with | 0, _ => (Le.refl _) | 1, _ => (Le.refl _) | 2, _ => (Le.refl _) | 3, _ => (Le.refl _) )) ⟩, trivial⟩⟩⟩⟩) (by exact ⟨by omega, ⟨by omega, ⟨by omega, ⟨by omega, trivial⟩⟩⟩⟩) (by exact ⟨le_ren (by exact trivial), ⟨(Le.refl _), ⟨(Le.refl _), ⟨(Le.refl _), ⟨(Le.refl _), trivial⟩⟩⟩⟩⟩) (by exact le_unren (by exact trivial)) (by exact ⟨⟨rfl, Nat.le_refl _, fun j hj => match j, hj with | 0, _ => (Le.refl _) | 1, _ => (Le.refl _) ⟩, ⟨⟨rfl, Nat.le_refl _, fun j hj => match j, hj with | 0, _ => (Le.refl _) | 1, _ => (Le.refl _) | 2, _ => (Le.refl _) | 3, _ => (Le.refl _) | 4, _ => (Le.refl _) | 5, _ => (Le.refl _) | 6, _ => (Le.refl _) | 7, _ => (Le.refl _) ⟩, ⟨LeO.rflc, ⟨⟨rfl, Nat.le_refl _, fun j hj => match j, hj with | 0, _ => (Le.fn (fun i hi => absurd hi (by omega)) (fun i hi => match i, hi with | 0, _ => (Le.refl _) | 1, _ => (Le.refl _) | 2, _ => (Le.refl _) | 3, _ => (Le.refl _) )) ⟩, ⟨trivial, ⟨LeO.rflc, trivial⟩⟩⟩⟩⟩⟩))⟩, ⟨(by omega), ?_⟩⟩⟩⟩⟩⟩⟩⟩, fun c1 => have c1 : ¬(↑j : Int) < (↑(List.length (relOf x p i).needs.l) : Int) := (of_decide_eq_false c1); ?_⟩
        · refine (next_round (j + 1) (to_sel [0, 1, 2, 3, 4] 6 rfl rfl rfl rfl rfl ⟨(Le.refl _), ⟨(Le.refl _), ⟨(Le.refl _), ⟨(Le.refl _), trivial⟩⟩⟩⟩ ⟨⟨rfl, Nat.le_refl _, fun j hj => match j, hj with | 0, _ => (Le.refl _) | 1, _ => (Le.refl _) ⟩, ⟨⟨rfl, Nat.le_refl _, fun j hj => match j, hj with | 0, _ => (Le.refl _) | 1, _ => (Le.refl _) | 2, _ => (Le.refl _) | 3, _ => (Le.refl _) | 4, _ => (Le.refl _) | 5, _ => (Le.refl _) | 6, _ => (Le.refl _) | 7, _ => (Le.refl _) ⟩, ⟨⟨rfl, Nat.le_refl _, fun j hj => match j, hj with | 0, _ => (Le.of_eq ?_) ⟩, ⟨⟨rfl, Nat.le_refl _, fun j hj => match j, hj with | 0, _ => (Le.fn (fun i hi => absurd hi (by omega)) (fun i hi => match i, hi with | 0, _ => (Le.refl _) | 1, _ => (Le.refl _) | 2, _ => (Le.refl _) | 3, _ => (Le.refl _) )) ⟩, ⟨trivial, trivial⟩⟩⟩⟩⟩) ?_ ?_)
          · exact congrArg (fun n : Nat => AV.int IntKind.u64 n) (foldl_take_succ (f := fun s (r : Rng) => dfs x p n s r.pack.toNat) (by omega)).symm
          · omega
          · omega
        · have hj' : j = (relOf x p i).needs.l.length := by omega
          have hd : dfs x p (n + 1) s i = (((relOf x p i).needs.l.take j).foldl (fun s r => dfs x p n s r.pack.toNat) (s ||| 2 ^ i)) := by
            rw [hj', List.take_length]
            conv => lhs; unfold dfs
            rw [ht]; rfl
          rw [hd]
          refine ⟨_, To.refl _, (retQ_le (retQ_take' 4 _ _ rfl trivial (by omega) trivial ⟨(fun j hj => match j, hj with | 0, _ => trivial | 1, _ => trivial ), ⟨(fun j hj => match j, hj with | 0, _ => trivial | 1, _ => trivial | 2, _ => trivial | 3, _ => trivial | 4, _ => trivial | 5, _ => trivial | 6, _ => trivial | 7, _ => trivial ), ⟨(fun j hj => match j, hj with | 0, _ => trivial ), ⟨(fun j hj => match j, hj with | 0, _ => ⟨trivial, ⟨⟨⟨⟨trivial, (show 3 ≤ 4 by omega)⟩, (show 1 ≤ 4 by omega)⟩, (show 2 ≤ 4 by omega)⟩, (show 4 ≤ 4 by omega)⟩⟩ ), trivial⟩⟩⟩⟩ (by kernel_rfl) rfl rfl) (Le.refl _))⟩
theorem c_needed1 (x : Ix) (gl : KL Rng) (p : Nat → Int) (h8 : x.l.length ≤ 8) (h : inP x p) (hw : wfN x p) (hl : smallN x p) (R : Res) (g : R.σ) (k : Int) (s : Nat) (hk : 0 ≤ k) (hx : k < x.l.length) (hs : s < 2 ^ 8) (hr : room s ≤ 8) : Does Try.prog R 98 [.int .i64 k, .ref 2 0, .ref 0 0, .ref 1 0, .ref 3 0] (hpN x gl p s) g (.ret (.tup 0 (nth []))) (hpN x gl p (dfs x p 8 s k.toNat)) g :=
  needed1_all x gl p h8 h hw hl 8 R g k s hk hx hs hr
def neededN (x : Ix) (gl : List Rng) (p : Nat → Int) : Nat := gl.foldl (fun s r => dfs x p 8 s r.pack.toNat) 0
theorem neededN_lt {x : Ix} {gl : List Rng} {p : Nat → Int} (h8 : x.l.length ≤ 8) (hw : wfN x p) (hgl : ∀ r ∈ gl, 0 ≤ r.pack ∧ r.pack < x.l.length) : neededN x gl p < 2 ^ 8 := by
  refine foldl_keep (P := fun s => s < 2 ^ 8) (fun s hs r hr => ?_) (by decide)
  have := hgl r hr
  exact dfs_lt h8 hw 8 s _ (by omega) hs
theorem c_needed (R : Res) (x : Ix) (gl : KL Rng) (p : Nat → Int) (hp : List AObj) (g : R.σ) (h8 : x.l.length ≤ 8) (h : inP x p) (hw : wfN x p) (hl : smallN x p) (hg : gl.l.length < 1000000) (hgl : ∀ r ∈ gl.l, 0 ≤ r.pack ∧ r.pack < x.l.length) : Does Try.prog R 92 [encMkt x gl, encPlan p] hp g (.ret (.int .u64 (neededN x gl.l p))) hp g := by
  refine does_any' (fun R g => ?_) (by exact ⟨⟨⟨trivial, trivial⟩, trivial⟩, ⟨⟨⟨⟨⟨⟨⟨⟨⟨trivial, trivial⟩, trivial⟩, trivial⟩, trivial⟩, trivial⟩, trivial⟩, trivial⟩, trivial⟩, trivial⟩⟩) R hp g
  refine spec_of_wp (nt := 23) (rs := [.tmp 4]) (k0 := 0) (by kernel_rfl) (by kernel_rfl) (by kernel_rfl) rfl ?_
  refine vcQ [] (lkL [(0, [2, 3]), (1, [2, 3, 5]), (2, [2, 3, 5, 6]), (3, [2, 5, 6]), (4, [5, 6, 11, 12, 13])]) (lkL [(3, [(1, ROrc.val (Orc.obj (nth [fn 98 0 (nth []) 4 (nth [ref 2 0, ref 0 0, ref 1 0, ref 3 0])])))])]) (fun (Q : AEx → St R.σ → Prop) => 1 ≤ 1 ∧ (∀ (c : Nat), c < 1 → nth [fn 98 0 (nth []) 4 (nth [ref 2 0, ref 0 0, ref 1 0, ref 3 0])] c = over (fun (a : Nat) => AV.nilf) 0 1 (fun (x : Nat) => fn 98 0 (nth []) 4 (nth [ref 2 0, ref 0 0, ref 1 0, ref 3 0])) c) ∧ 2 ≤ 2 ∧ Wp Try.prog R 23 0 Rd.top (bodyOf Try.prog 92) [1, 1, 1, 1, 0, 1, 0] (contQ Try.prog R 23 0 Rd.top (bodyOf Try.prog 92) Q [Kont.blk 0, Kont.seq [1, 1, 1, 1, 1]]) (St.mk [(5, ref 2 0), (6, ref 3 0), (11, encR gl), (12, int i64 (↑(List.length gl.l) : Int)), (13, int i64 0)] [cells false 2 (nth [encPacks x, encR gl]), cells false 8 fun (a : Nat) => int i64 (p a), cells false 1 fun (a : Nat) => int u64 0, cells false 1 (nth [fn 98 0 (nth []) 4 (nth [ref 2 0, ref 0 0, ref 1 0, ref 3 0])])] g)) (fun _ => by kernel_rfl) ⟨(by omega), ⟨(fun c hc => match c, hc with | 0, _ => (by kernel_rfl) ), ⟨(by omega), ?_⟩⟩⟩
  have hS : ∀ j, room ((gl.l.take j).foldl (fun s r => dfs x p 8 s r.pack.toNat) 0) ≤ 8 ∧ (gl.l.take j).foldl (fun s r => dfs x p 8 s r.pack.toNat) 0 < 2 ^ 8 := by
    intro j
    refine ⟨Nat.le_trans (List.length_filter_le _ _) (by simp), ?_⟩
    refine foldl_keep (P := fun s => s < 2 ^ 8) (fun s hs r hr => ?_) (by decide)
    have := hgl r (List.mem_of_mem_take hr)
    exact dfs_lt h8 hw 8 s _ (by omega) hs
  refine (wp_loop (by kernel_rfl) (fun (j : Nat) => ⟨[(5, ref 2 0), (6, ref 3 0), (11, encR gl), (12, int i64 (↑(List.length gl.l) : Int)), (13, .int .i64 (j : Int))], (hpN x gl p ((gl.l.take j).foldl (fun s r => dfs x p 8 s r.pack.toNat) 0)), g⟩) (fun (j : Nat) => (j ≤ gl.l.length)) (fun (j : Nat) => (gl.l.length - j)) 0 (to_le ⟨(Le.refl _), ⟨(Le.refl _), ⟨(Le.refl _), ⟨(Le.refl _), ⟨(Le.of_eq (by kernel_rfl)), trivial⟩⟩⟩⟩⟩ ⟨LeO.rflc, ⟨LeO.rflc, ⟨LeO.rflc, ⟨LeO.rflc, trivial⟩⟩⟩⟩ rfl) ?_ (fun j hi => ?_))
  · exact Nat.zero_le _
  · obtain ⟨hS1, hS2⟩ := hS j
    have hj : j < gl.l.length → 0 ≤ (gl.l.getD j default).pack ∧ (gl.l.getD j default).pack < x.l.length := fun hj => hgl _ (getD_mem _ _ hj)
    refine vcQ [] (lkL [(5, [5, 6, 11, 12, 13, 14]), (6, [5, 6, 8, 11, 12, 13]), (7, [5, 6, 11, 12, 13]), (8, [5, 6, 11, 12, 13])]) (lkL [(6, [(3, ROrc.val (Orc.obj (nth [int i64 (List.getD gl.l j default).pack, int i64 (List.getD gl.l j default).low, int i64 (List.getD gl.l j default).high])))]), (7, [(3, ROrc.call (tup 0 fun (j : Nat) => any) [cells false 2 (nth [encPacks x, encR gl]), cells false 8 fun (a : Nat) => int i64 (p a), cells false 1 fun (j_1 : Nat) => int u64 (↑(dfs x p 8 (List.foldl (fun (s : Nat) (r : Rng) => dfs x p 8 s (Int.toNat r.pack)) 0 (List.take j gl.l)) (Int.toNat (List.getD gl.l j default).pack)) : Int), cells false 1 (nth [fn 98 0 (nth []) 4 (nth [ref 2 0, ref 0 0, ref 1 0, ref 3 0])]), cells false 3 (nth [int i64 (List.getD gl.l j default).pack, int i64 (List.getD gl.l j default).low, int i64 (List.getD gl.l j default).high])] g)])]) (fun (Q : AEx → St R.σ → Prop) => (decide ((↑j : Int) < (↑(List.length gl.l) : Int)) = true → (0 ≤ (↑j : Int) ∧ (↑j : Int) < (↑(List.length gl.l) : Int)) ∧ 3 ≤ 3 ∧ 3 ≤ 3 ∧ (∀ (c : Nat), c < 3 → nth [int i64 (List.getD gl.l j default).pack, int i64 (List.getD gl.l j default).low, int i64 (List.getD gl.l j default).high] c = over (nth [int i64 0, int i64 0, int i64 0]) 0 3 (List.brecOn (motive := fun (x : List AV) => Nat → AV) [int i64 (List.getD gl.l j default).pack, int i64 (List.getD gl.l j default).low, int i64 (List.getD gl.l j default).high] nth._f) c) ∧ 1 ≤ 1 ∧ 1 ≤ 3 ∧ (true = true ∧ Does Try.prog R 98 [int i64 (List.getD gl.l j default).pack, ref 2 0, ref 0 0, ref 1 0, ref 3 0] [cells false 2 (nth [encPacks x, encR gl]), cells false 8 fun (a : Nat) => int i64 (p a), cells false 1 fun (x_2 : Nat) => int u64 (↑(List.foldl (fun (s : Nat) (r : Rng) => dfs x p 8 s (Int.toNat r.pack)) 0 (List.take j gl.l)) : Int), cells false 1 (nth [fn 98 0 (nth []) 4 (nth [ref 2 0, ref 0 0, ref 1 0, ref 3 0])]), cells false 3 (nth [int i64 (List.getD gl.l j default).pack, int i64 (List.getD gl.l j default).low, int i64 (List.getD gl.l j default).high])] g (ret (tup 0 fun (j : Nat) => any)) [cells false 2 (nth [encPacks x, encR gl]), cells false 8 fun (a : Nat) => int i64 (p a), cells false 1 fun (j_1 : Nat) => int u64 (↑(dfs x p 8 (List.foldl (fun (s : Nat) (r : Rng) => dfs x p 8 s (Int.toNat r.pack)) 0 (List.take j gl.l)) (Int.toNat (List.getD gl.l j default).pack)) : Int), cells false 1 (nth [fn 98 0 (nth []) 4 (nth [ref 2 0, ref 0 0, ref 1 0, ref 3 0])]), cells false 3 (nth [int i64 (List.getD gl.l j default).pack, int i64 (List.getD gl.l j default).low, int i64 (List.getD gl.l j default).high])] g) ∧ (-9223372036854775808 ≤ (↑j : Int) + 1 ∧ (↑j : Int) + 1 ≤ 9223372036854775807) ∧ Q AEx.normal (St.mk [(5, ref 2 0), (6, ref 3 0), (11, encR gl), (12, int i64 (↑(List.length gl.l) : Int)), (13, int i64 ((↑j : Int) + 1))] [cells false 2 (nth [encPacks x, encR gl]), cells false 8 fun (a : Nat) => int i64 (p a), cells false 1 fun (j_1 : Nat) => int u64 (↑(dfs x p 8 (List.foldl (fun (s : Nat) (r : Rng) => dfs x p 8 s (Int.toNat r.pack)) 0 (List.take j gl.l)) (Int.toNat (List.getD gl.l j default).pack)) : Int), cells false 1 (nth [fn 98 0 (nth []) 4 (nth [ref 2 0, ref 0 0, ref 1 0, ref 3 0])]), cells false 3 (nth [int i64 (List.getD gl.l j default).pack, int i64 (List.getD gl.l j default).low, int i64 (List.getD gl.l j default).high])] g)) ∧ (decide ((↑j : Int) < (↑(List.length gl.l) : Int)) = false → Q (AEx.exit 0) (St.mk [(5, ref 2 0), (6, ref 3 0), (11, encR gl), (12, int i64 (↑(List.length gl.l) : Int)), (13, int i64 (↑j : Int)), (14, AV.bool (decide ((↑j : Int) < (↑(List.length gl.l) : Int))))] [cells false 2 (nth [encPacks x, encR gl]), cells false 8 fun (a : Nat) => int i64 (p a), cells false 1 fun (x_2 : Nat) => int u64 (↑(List.foldl (fun (s : Nat) (r : Rng) => dfs x p 8 s (Int.toNat r.pack)) 0 (List.take j gl.l)) : Int), cells false 1 (nth [fn 98 0 (nth []) 4 (nth [ref 2 0, ref 0 0, ref 1 0, ref 3 0])])] g))) (fun _ => by kernel_rfl) ⟨fun c1 => have c1 : (↑j : Int) < (↑(List.length gl.l) : Int) := (of_decide_eq_true c1); ⟨(by omega), ⟨(by omega), ⟨(by omega), ⟨(fun c hc => match c, hc with | 0, _ => (by kernel_rfl) | 1, _ => (by kernel_rfl) | 2, _ => (by kernel_rfl) ), ⟨(by omega), ⟨(by omega), ⟨⟨rfl, (does_sub' [0, 1, 2, 3] 5 (fun R g => Go.Avm.Pack.c_needed1 (x) (gl) (p) (by omega) (by omega) (by omega) (by omega) R g ((List.getD gl.l j default).pack) (List.foldl (fun (s : Nat) (r : Rng) => dfs x p 8 s (Int.toNat r.pack)) 0 (List.take j gl.l)) (by simp at * <;> omega) (by simp at * <;> omega) (by omega) (by omega)) rfl rfl rfl (by exact ⟨⟨rfl, Nat.le_refl _, fun j hj => match j, hj with | 0, _ => (Le.refl _) | 1, _ => (Le.refl _) ⟩, ⟨⟨rfl, Nat.le_refl _, fun j hj => match j, hj with | 0, _ => (Le.refl _) | 1, _ => (Le.refl _) | 2, _ => (Le.refl _) | 3, _ => (Le.refl _) | 4, _ => (Le.refl _) | 5, _ => (Le.refl _) | 6, _ => (Le.refl _) | 7, _ => (Le.refl _) ⟩, ⟨⟨rfl, Nat.le_refl _, fun j hj => match j, hj with | 0, _ => (Le.refl _) ⟩, ⟨⟨rfl, Nat.le_refl _, fun j hj => match j, hj with | 0, _ => (Le.fn (fun i hi => absurd hi (by omega)) (fun i hi => match i, hi with | 0, _ => (Le.refl _) | 1, _ => (Le.refl _) | 2, _ => (Le.refl _) | 3, _ => (Le.refl _) )) ⟩, trivial⟩⟩⟩⟩) (by exact ⟨by omega, ⟨by omega, ⟨by omega, ⟨by omega, trivial⟩⟩⟩⟩) (by exact ⟨le_ren (by exact trivial), ⟨(Le.refl _), ⟨(Le.refl _), ⟨(Le.refl _), ⟨(Le.refl _), trivial⟩⟩⟩⟩⟩) (by exact le_unren (by exact trivial)) (by exact ⟨⟨rfl, Nat.le_refl _, fun j hj => match j, hj with | 0, _ => (Le.refl _) | 1, _ => (Le.refl _) ⟩, ⟨⟨rfl, Nat.le_refl _, fun j hj => match j, hj with | 0, _ => (Le.refl _) | 1, _ => (Le.refl _) | 2, _ => (Le.refl _) | 3, _ => (Le.refl _) | 4, _ => (Le.refl _) | 5, _ => (Le.refl _) | 6, _ => (Le.refl _) | 7, _ => (Le.refl _) ⟩, ⟨LeO.rflc, ⟨⟨rfl, Nat.le_refl _, fun j hj => match j, hj with | 0, _ => (Le.fn (fun i hi => absurd hi (by omega)) (fun i hi => match i, hi with | 0, _ => (Le.refl _) | 1, _ => (Le.refl _) | 2, _ => (Le.refl _) | 3, _ => (Le.refl _) )) ⟩, ⟨LeO.rflc, trivial⟩⟩⟩⟩⟩))⟩, ⟨(by omega), ?_⟩⟩⟩⟩⟩⟩⟩⟩, fun c1 => have c1 : ¬(↑j : Int) < (↑(List.length gl.l) : Int) := (of_decide_eq_false c1); ?_⟩
    · refine (next_round (j + 1) (to_sel [0, 1, 2, 3] 5 rfl rfl rfl rfl rfl ⟨(Le.refl _), ⟨(Le.refl _), ⟨(Le.refl _), ⟨(Le.refl _), ⟨(Le.refl _), trivial⟩⟩⟩⟩⟩ ⟨⟨rfl, Nat.le_refl _, fun j hj => match j, hj with | 0, _ => (Le.refl _) | 1, _ => (Le.refl _) ⟩, ⟨⟨rfl, Nat.le_refl _, fun j hj => match j, hj with | 0, _ => (Le.refl _) | 1, _ => (Le.refl _) | 2, _ => (Le.refl _) | 3, _ => (Le.refl _) | 4, _ => (Le.refl _) | 5, _ => (Le.refl _) | 6, _ => (Le.refl _) | 7, _ => (Le.refl _) ⟩, ⟨⟨rfl, Nat.le_refl _, fun j hj => match j, hj with | 0, _ => (Le.of_eq ?_) ⟩, ⟨⟨rfl, Nat.le_refl _, fun j hj => match j, hj with | 0, _ => (Le.fn (fun i hi => absurd hi (by omega)) (fun i hi => match i, hi with | 0, _ => (Le.refl _) | 1, _ => (Le.refl _) | 2, _ => (Le.refl _) | 3, _ => (Le.refl _) )) ⟩, trivial⟩⟩⟩⟩) ?_ ?_)
      · exact congrArg (fun n : Nat => AV.int IntKind.u64 n) (foldl_take_succ (f := fun s (r : Rng) => dfs x p 8 s r.pack.toNat) (by omega)).symm
      · omega
      · omega
    · have hj' : j = gl.l.length := by omega
      rw [hj', List.take_length]
      refine ⟨_, To.refl _, vcQ [] (lkL [(9, [4])]) (fun _ => []) (fun (Q : AEx → St R.σ → Prop) => 1 ≤ 1 ∧ Q AEx.ret (St.mk [(4, int u64 (↑(List.foldl (fun (s : Nat) (r : Rng) => dfs x p 8 s (Int.toNat r.pack)) 0 gl.l) : Int))] [cells false 2 (nth [encPacks x, encR gl]), cells false 8 fun (a : Nat) => int i64 (p a), cells false 1 fun (x_2 : Nat) => int u64 (↑(List.foldl (fun (s : Nat) (r : Rng) => dfs x p 8 s (Int.toNat r.pack)) 0 gl.l) : Int), cells false 1 (nth [fn 98 0 (nth []) 4 (nth [ref 2 0, ref 0 0, ref 1 0, ref 3 0])])] g)) (fun _ => by kernel_rfl) ⟨(by omega), ?_⟩⟩
      refine (retQ_le (retQ_drop _ _ rfl trivial trivial rfl) (Le.of_eq (by kernel_rfl)))
end Go.Avm.Pack
namespace Go.Avm.Pack
open Go Go.Avm Go.Proofs
open Go.IntKind (i64 u64)
open Go.Avm.AV (int bool any fz fp sl ow ref fn ifc val agg tup)
open Go.Avm.AObj (cells dead)
open Go.Avm.Oc (ret)
set_option maxRecDepth 4000
def fstN (n : Nat) (q : Nat → Bool) : Option Nat := (List.range n).find? q
theorem fstN_some {n i : Nat} {q : Nat → Bool} (h : i < n) (hq : q i = true) (hb : ∀ j, j < i → q j = false) : fstN n q = some i := by
  unfold fstN
  rw [List.find?_range_eq_some]
  refine ⟨hq, by simpa using h, fun j hj => ?_⟩
  simp [hb j hj]
theorem fstN_none {n : Nat} {q : Nat → Bool} (hb : ∀ j, j < n → q j = false) : fstN n q = none := by
  unfold fstN
  rw [List.find?_eq_none]
  intro j hj
  simp [hb j (by simpa using hj)]
def faultG (gl : List Rng) (p : Nat → Int) : Option Nat := fstN gl.length fun j => !(inR (p (gl.getD j default).pack.toNat) (gl.getD j default))
def metB (p : Nat → Int) (r : Rng) : Bool := inR (p r.pack.toNat) r
def badB (x : Ix) (gl : List Rng) (p : Nat → Int) (pass i : Nat) : Bool := (p i != -1) && (if pass = 0 then !((relOf x p i).needs.l.all (metB p)) else if pass = 1 then (relOf x p i).bars.l.any (metB p) else !((neededN x gl p).testBit i))
def lookR (x : Ix) (gl : List Rng) (p : Nat → Int) : Option (Int × Int) :=
  match fstN gl.length (fun j => !(metB p (gl.getD j default))) with
  | some j => some (1, j)
  | none => match fstN x.l.length (badB x gl p 0) with
    | some i => some (2, i)
    | none => match fstN x.l.length (badB x gl p 1) with
      | some i => some (3, i)
      | none => match fstN x.l.length (badB x gl p 2) with
        | some i => some (4, i)
        | none => none
theorem look_some {x : Ix} {gl : List Rng} {p : Nat → Int} {a i : Nat} (hG : fstN gl.length (fun j => !(metB p (gl.getD j default))) = none) (h4 : ∀ b, b < a → ∀ i, i < x.l.length → badB x gl p b i = false) (h6 : ∀ k, k < i → badB x gl p a k = false) (hi : i < x.l.length) (hb : badB x gl p a i = true) (ha : a < 3) :
    lookR x gl p = some ((a : Int) + 2, (i : Int)) := by
  have n0 : 0 < a → fstN x.l.length (badB x gl p 0) = none := fun h => fstN_none (h4 0 h)
  have n1 : 1 < a → fstN x.l.length (badB x gl p 1) = none := fun h => fstN_none (h4 1 h)
  have hs := fstN_some hi hb h6
  unfold lookR
  rw [hG]
  rcases (show a = 0 ∨ a = 1 ∨ a = 2 by omega) with e | e | e
  · subst e; simp only [hs]; rfl
  · subst e; simp only [n0 (by omega), hs]; rfl
  · subst e; simp only [n0 (by omega), n1 (by omega), hs]; rfl
theorem look_none {x : Ix} {gl : List Rng} {p : Nat → Int} (hG : fstN gl.length (fun j => !(metB p (gl.getD j default))) = none) (h4 : ∀ b, b < 3 → ∀ i, i < x.l.length → badB x gl p b i = false) : lookR x gl p = none := by
  have n0 : fstN x.l.length (badB x gl p 0) = none := fstN_none (h4 0 (by omega))
  have n1 : fstN x.l.length (badB x gl p 1) = none := fstN_none (h4 1 (by omega))
  have n2 : fstN x.l.length (badB x gl p 2) = none := fstN_none (h4 2 (by omega))
  unfold lookR
  simp only [hG, n0, n1, n2]
def wfB (x : Ix) (p : Nat → Int) : Prop := ∀ i, i < x.l.length → ∀ r ∈ (relOf x p i).bars.l, 0 ≤ r.pack ∧ r.pack < x.l.length
def smallB' (x : Ix) (p : Nat → Int) : Prop := ∀ i, (relOf x p i).bars.l.length < 1000000
def lookOc : Option (Int × Int) → Oc
  | none => .ret (.tup 0 (nth []))
  | some (f, i) => .pan (.ifc 83 (.agg 2 (nth [.int .i64 f, .int .i64 i])))
theorem look_all (R : Res) (x : Ix) (gl : KL Rng) (p : Nat → Int) (hp : List AObj) (g : R.σ) (h8 : x.l.length ≤ 8) (h : inP x p) (hw : wfN x p) (hwb : wfB x p) (hl : smallN x p) (hlb : smallB' x p) (hg : gl.l.length < 1000000) (hgl : ∀ r ∈ gl.l, 0 ≤ r.pack ∧ r.pack < x.l.length) : Does Try.prog R 77 [encMkt x gl, encPlan p] hp g (lookOc (lookR x gl.l p)) hp g := by
  refine does_any' (fun R g => ?_) (by exact ⟨⟨⟨trivial, trivial⟩, trivial⟩, ⟨⟨⟨⟨⟨⟨⟨⟨⟨trivial, trivial⟩, trivial⟩, trivial⟩, trivial⟩, trivial⟩, trivial⟩, trivial⟩, trivial⟩, trivial⟩⟩) R hp g
  refine spec_of_wp (nt := 92) (rs := []) (k0 := 0) (by kernel_rfl) (by kernel_rfl) (by kernel_rfl) rfl ?_
  refine vcQ [] (lkL [(0, [2, 3]), (1, [2, 3, 12, 13, 14])]) (fun _ => []) (fun (Q : AEx → St R.σ → Prop) => 2 ≤ 2 ∧ Wp Try.prog R 92 0 Rd.top (bodyOf Try.prog 77) [1, 0, 1, 0] (contQ Try.prog R 92 0 Rd.top (bodyOf Try.prog 77) Q [Kont.blk 0, Kont.seq [1, 1]]) (St.mk [(2, ref 0 0), (3, ref 1 0), (12, encR gl), (13, int i64 (↑(List.length gl.l) : Int)), (14, int i64 0)] [cells false 2 (nth [encPacks x, encR gl]), cells false 8 fun (a : Nat) => int i64 (p a)] g)) (fun _ => by kernel_rfl) ⟨(by omega), ?_⟩
  refine (wp_loop (by kernel_rfl) (fun (j : Nat) => ⟨[(2, ref 0 0), (3, ref 1 0), (12, encR gl), (13, int i64 (↑(List.length gl.l) : Int)), (14, .int .i64 (j : Int))], [cells false 2 (nth [encPacks x, encR gl]), cells false 8 fun (a : Nat) => int i64 (p a)], g⟩) (fun (j : Nat) => (j ≤ gl.l.length ∧ ∀ k, k < j → metB p (gl.l.getD k default) = true)) (fun (j : Nat) => (gl.l.length - j)) 0 (to_fr ⟨(Le.refl _), ⟨(Le.refl _), ⟨(Le.refl _), ⟨(Le.refl _), ⟨(Le.of_eq (by kernel_rfl)), trivial⟩⟩⟩⟩⟩ rfl rfl) ?_ (fun j hi => ?_))
  · exact ⟨Nat.zero_le _, fun k hk => absurd hk (by omega)⟩
  · obtain ⟨h1, h2⟩ := hi
    have hj : j < gl.l.length → 0 ≤ (gl.l.getD j default).pack ∧ (gl.l.getD j default).pack < x.l.length := fun hj => hgl _ (getD_mem _ _ hj)
    refine vcQ [] (lkL [(2, [2, 3, 12, 13, 14, 15]), (3, [2, 3, 4, 5, 12, 13, 14]), (4, [2, 3, 4, 12, 13, 14, 22]), (5, [2, 3, 12, 13, 14]), (6, [2, 3, 12, 13, 14])]) (lkL [(3, [(5, ROrc.val (Orc.obj (nth [int i64 (List.getD gl.l j default).pack, int i64 (List.getD gl.l j default).low, int i64 (List.getD gl.l j default).high])))]), (4, [(2, ROrc.pcall (AV.bool (inR (p (Int.toNat (List.getD gl.l j default).pack)) (List.getD gl.l j default))))])]) (fun (Q : AEx → St R.σ → Prop) => (decide ((↑j : Int) < (↑(List.length gl.l) : Int)) = true → (0 ≤ (↑j : Int) ∧ (↑j : Int) < (↑(List.length gl.l) : Int)) ∧ 3 ≤ 3 ∧ 3 ≤ 3 ∧ (∀ (c : Nat), c < 3 → nth [int i64 (List.getD gl.l j default).pack, int i64 (List.getD gl.l j default).low, int i64 (List.getD gl.l j default).high] c = over (nth [int i64 0, int i64 0, int i64 0]) 0 3 (List.brecOn (motive := fun (x : List AV) => Nat → AV) [int i64 (List.getD gl.l j default).pack, int i64 (List.getD gl.l j default).low, int i64 (List.getD gl.l j default).high] nth._f) c) ∧ 8 ≤ 8 ∧ 3 ≤ 3 ∧ (∀ (hp : List AObj) (g : R.σ), true = true ∧ Does Try.prog R 91 [encPlan p, encRng (List.getD gl.l j default)] hp g (ret (AV.bool (inR (p (Int.toNat (List.getD gl.l j default).pack)) (List.getD gl.l j default)))) hp g) ∧ ((!inR (p (Int.toNat (List.getD gl.l j default).pack)) (List.getD gl.l j default)) = true → Q (AEx.pan (ifc 83 (agg 2 (nth [int i64 1, int i64 (↑j : Int)])))) (St.mk [(2, ref 0 0), (3, ref 1 0), (12, encR gl), (13, int i64 (↑(List.length gl.l) : Int)), (14, int i64 (↑j : Int))] [cells false 2 (nth [encPacks x, encR gl]), cells false 8 fun (a : Nat) => int i64 (p a), cells false 3 (nth [int i64 (List.getD gl.l j default).pack, int i64 (List.getD gl.l j default).low, int i64 (List.getD gl.l j default).high])] g)) ∧ ((!inR (p (Int.toNat (List.getD gl.l j default).pack)) (List.getD gl.l j default)) = false → (-9223372036854775808 ≤ (↑j : Int) + 1 ∧ (↑j : Int) + 1 ≤ 9223372036854775807) ∧ Q AEx.normal (St.mk [(2, ref 0 0), (3, ref 1 0), (12, encR gl), (13, int i64 (↑(List.length gl.l) : Int)), (14, int i64 ((↑j : Int) + 1))] [cells false 2 (nth [encPacks x, encR gl]), cells false 8 fun (a : Nat) => int i64 (p a), cells false 3 (nth [int i64 (List.getD gl.l j default).pack, int i64 (List.getD gl.l j default).low, int i64 (List.getD gl.l j default).high])] g))) ∧ (decide ((↑j : Int) < (↑(List.length gl.l) : Int)) = false → Q (AEx.exit 0) (St.mk [(2, ref 0 0), (3, ref 1 0), (12, encR gl), (13, int i64 (↑(List.length gl.l) : Int)), (14, int i64 (↑j : Int)), (15, AV.bool (decide ((↑j : Int) < (↑(List.length gl.l) : Int))))] [cells false 2 (nth [encPacks x, encR gl]), cells false 8 fun (a : Nat) => int i64 (p a)] g))) (fun _ => by kernel_rfl) ⟨fun c1 => have c1 : (↑j : Int) < (↑(List.length gl.l) : Int) := (of_decide_eq_true c1); ⟨(by omega), ⟨(by omega), ⟨(by omega), ⟨(fun c hc => match c, hc with | 0, _ => (by kernel_rfl) | 1, _ => (by kernel_rfl) | 2, _ => (by kernel_rfl) ), ⟨(by omega), ⟨(by omega), ⟨(fun _ _ => ⟨rfl, (Go.Avm.Pack.c_meets _ _ _ _ _ (by simp at * <;> omega) (by simp at * <;> omega))⟩), ⟨fun c2 => have c2 : inR (p (Int.toNat (List.getD gl.l j default).pack)) (List.getD gl.l j default) = false := ((Bool.not_eq_true' _).mp c2); ?_, fun c2 => have c2 : inR (p (Int.toNat (List.getD gl.l j default).pack)) (List.getD gl.l j default) = true := ((Bool.not_eq_false' _).mp c2); ⟨(by omega), ?_⟩⟩⟩⟩⟩⟩⟩⟩⟩, fun c1 => have c1 : ¬(↑j : Int) < (↑(List.length gl.l) : Int) := (of_decide_eq_false c1); ?_⟩
    · have : lookR x gl.l p = some (1, (j : Int)) := by
        unfold lookR
        rw [fstN_some (i := j) (by omega) (by simpa [metB] using c2) (fun k hk => by show (!(metB p _)) = false; rw [h2 k hk]; rfl)]
      rw [this]
      refine (panQ_take (P := Try.prog) (rs := []) 0 (by omega) ⟨⟨trivial, trivial⟩, trivial⟩ trivial (by kernel_rfl) rfl (Le.refl _))
    · refine (next_round (j + 1) (to_sel [0, 1] 3 rfl rfl rfl rfl rfl ⟨(Le.refl _), ⟨(Le.refl _), ⟨(Le.refl _), ⟨(Le.refl _), ⟨(Le.refl _), trivial⟩⟩⟩⟩⟩ ⟨⟨rfl, Nat.le_refl _, fun j hj => match j, hj with | 0, _ => (Le.refl _) | 1, _ => (Le.refl _) ⟩, ⟨⟨rfl, Nat.le_refl _, fun j hj => match j, hj with | 0, _ => (Le.refl _) | 1, _ => (Le.refl _) | 2, _ => (Le.refl _) | 3, _ => (Le.refl _) | 4, _ => (Le.refl _) | 5, _ => (Le.refl _) | 6, _ => (Le.refl _) | 7, _ => (Le.refl _) ⟩, trivial⟩⟩) ?_ ?_)
      · refine ⟨by omega, fun k hk => ?_⟩
        rcases Nat.lt_or_ge k j with h | h
        · exact h2 k h
        · have : k = j := by omega
          subst this
          exact c2
      · omega
    · refine ⟨_, To.refl _, vcQ [] (lkL [(7, [2, 3, 6]), (8, [2, 3, 6, 30])]) (lkL [(7, [(2, ROrc.pcall (int u64 (↑(neededN x gl.l p) : Int)))])]) (fun (Q : AEx → St R.σ → Prop) => 2 ≤ 2 ∧ 8 ≤ 8 ∧ (∀ (hp : List AObj) (g : R.σ), true = true ∧ Does Try.prog R 92 [encMkt x gl, encPlan p] hp g (ret (int u64 (↑(neededN x gl.l p) : Int))) hp g) ∧ Wp Try.prog R 92 0 Rd.top (bodyOf Try.prog 77) [1, 1, 1, 1, 0] (contQ Try.prog R 92 0 Rd.top (bodyOf Try.prog 77) Q [Kont.blk 2]) (St.mk [(2, ref 0 0), (3, ref 1 0), (6, int u64 (↑(neededN x gl.l p) : Int)), (30, int i64 0)] [cells false 2 (nth [encPacks x, encR gl]), cells false 8 fun (a : Nat) => int i64 (p a)] g)) (fun _ => by kernel_rfl) ⟨(by omega), ⟨(by omega), ⟨(fun _ _ => ⟨rfl, (Go.Avm.Pack.c_needed _ _ _ _ _ _ (by omega) (by omega) (by omega) (by omega) (by omega) (by omega))⟩), ?_⟩⟩⟩⟩
      have hj : j = gl.l.length := by omega
      have hG : fstN gl.l.length (fun j => !(metB p (gl.l.getD j default))) = none := fstN_none (fun k hk => by show (!(metB p _)) = false; rw [h2 k (by omega)]; rfl)
      have hN := neededN_lt h8 hw hgl
      refine (wp_loop (by kernel_rfl) (fun (a : Nat) => ⟨[(2, ref 0 0), (3, ref 1 0), (6, int u64 (↑(neededN x gl.l p) : Int)), (30, .int .i64 (a : Int))], [cells false 2 (nth [encPacks x, encR gl]), cells false 8 fun (a : Nat) => int i64 (p a)], g⟩) (fun (a : Nat) => (a ≤ 3 ∧ ∀ b, b < a → ∀ i, i < x.l.length → badB x gl.l p b i = false)) (fun (a : Nat) => (3 - a)) 0 (to_fr ⟨(Le.refl _), ⟨(Le.refl _), ⟨(Le.refl _), ⟨(Le.of_eq (by kernel_rfl)), trivial⟩⟩⟩⟩ rfl rfl) ?_ (fun a hi => ?_))
      · exact ⟨Nat.zero_le _, fun b hb => absurd hb (by omega)⟩
      · obtain ⟨h3, h4⟩ := hi
        refine vcQ [] (lkL [(9, [2, 3, 6, 30, 31]), (10, [2, 3, 6, 7, 30]), (11, [2, 3, 6, 7, 30, 36, 37])]) (fun _ => []) (fun (Q : AEx → St R.σ → Prop) => (decide ((↑a : Int) < 3) = true → 1 ≤ 2 ∧ Wp Try.prog R 92 0 Rd.top (bodyOf Try.prog 77) [1, 1, 1, 1, 0, 0, 1, 1, 0, 0, 1, 1, 0] (contQ Try.prog R 92 0 Rd.top (bodyOf Try.prog 77) Q [Kont.blk 4, Kont.blk 3, Kont.seq [1, 1, 1, 1, 0, 0, 1, 1, 1]]) (St.mk [(2, ref 0 0), (3, ref 1 0), (6, int u64 (↑(neededN x gl.l p) : Int)), (7, int i64 (↑a : Int)), (30, int i64 (↑a : Int)), (36, int i64 (↑(List.length x.l) : Int)), (37, int i64 0)] [cells false 2 (nth [encPacks x, encR gl]), cells false 8 fun (a : Nat) => int i64 (p a)] g)) ∧ (decide ((↑a : Int) < 3) = false → Q (AEx.exit 2) (St.mk [(2, ref 0 0), (3, ref 1 0), (6, int u64 (↑(neededN x gl.l p) : Int)), (30, int i64 (↑a : Int)), (31, AV.bool (decide ((↑a : Int) < 3)))] [cells false 2 (nth [encPacks x, encR gl]), cells false 8 fun (a : Nat) => int i64 (p a)] g))) (fun _ => by kernel_rfl) ⟨fun c1 => have c1 : (↑a : Int) < 3 := (of_decide_eq_true c1); ⟨(by omega), ?_⟩, fun c1 => have c1 : ¬(↑a : Int) < 3 := (of_decide_eq_false c1); ?_⟩
        · have h0 : a < 3 := by omega
          refine (wp_loop (by kernel_rfl) (fun (i : Nat) => ⟨[(2, ref 0 0), (3, ref 1 0), (6, int u64 (↑(neededN x gl.l p) : Int)), (7, int i64 (↑a : Int)), (30, int i64 (↑a : Int)), (36, int i64 (↑(List.length x.l) : Int)), (37, .int .i64 (i : Int))], [cells false 2 (nth [encPacks x, encR gl]), cells false 8 fun (a : Nat) => int i64 (p a)], g⟩) (fun (i : Nat) => (i ≤ x.l.length ∧ ∀ k, k < i → badB x gl.l p a k = false)) (fun (i : Nat) => (x.l.length - i)) 0 (to_fr ⟨(Le.refl _), ⟨(Le.refl _), ⟨(Le.refl _), ⟨(Le.refl _), ⟨(Le.refl _), ⟨(Le.refl _), ⟨(Le.of_eq (by kernel_rfl)), trivial⟩⟩⟩⟩⟩⟩⟩ rfl rfl) ?_ (fun i hi => ?_))
          · exact ⟨Nat.zero_le _, fun b hb => absurd hb (by omega)⟩
          · obtain ⟨h5, h6⟩ := hi
            have hn1 := hl i
            have hn2 := hlb i
            refine vcQ [] (lkL [(12, [2, 3, 6, 7, 30, 36, 37, 38]), (13, [2, 3, 6, 7, 8, 30, 36, 37]), (14, [2, 3, 6, 7, 8, 9, 10, 30, 36, 37]), (15, [2, 3, 6, 7, 8, 9, 30, 36, 37, 47]), (16, [2, 3, 6, 7, 8, 9, 30, 36, 37, 50]), (18, [2, 3, 6, 7, 8, 30, 36, 37, 64]), (20, [2, 3, 6, 7, 8, 30, 36, 37, 77]), (21, [2, 3, 6, 7, 30, 36, 37]), (19, [2, 3, 6, 7, 30, 36, 37]), (17, [2, 3, 6, 7, 30, 36, 37]), (22, [2, 3, 6, 7, 30, 36, 37])]) (lkL [(14, [(3, ROrc.pcall (tup 2 (nth [encRel (relOf x p i), AV.bool (p i != -1)]))), (8, ROrc.val (Orc.obj (nth [encR (relOf x p i).needs, encR (relOf x p i).bars])))]), (16, [(7, ROrc.kcall (AV.bool (List.all (relOf x p i).needs.l fun (r : Rng) => inR (p (Int.toNat r.pack)) r)))]), (18, [(7, ROrc.kcall (AV.bool (List.any (relOf x p i).bars.l fun (r : Rng) => inR (p (Int.toNat r.pack)) r)))])]) (fun (Q : AEx → St R.σ → Prop) => (decide ((↑i : Int) < (↑(List.length x.l) : Int)) = true → 2 ≤ 2 ∧ 8 ≤ 8 ∧ (∀ (hp : List AObj) (g : R.σ), true = true ∧ Does Try.prog R 93 [encMkt x gl, encPlan p, int i64 (↑i : Int)] hp g (ret (tup 2 (nth [encRel (relOf x p i), AV.bool (p i != -1)]))) hp g) ∧ 2 ≤ 2 ∧ (∀ (c : Nat), c < 2 → nth [encR (relOf x p i).needs, encR (relOf x p i).bars] c = over (nth [fz Fz.nil 0 0 fun (x x_2 : Nat) => any, fz Fz.nil 0 0 fun (x x_2 : Nat) => any]) 0 2 (List.brecOn (motive := fun (x : List AV) => Nat → AV) [encR (relOf x p i).needs, encR (relOf x p i).bars] nth._f) c) ∧ ((!p i != -1) = true → (-9223372036854775808 ≤ (↑i : Int) + 1 ∧ (↑i : Int) + 1 ≤ 9223372036854775807) ∧ Q AEx.normal (St.mk [(2, ref 0 0), (3, ref 1 0), (6, int u64 (↑(neededN x gl.l p) : Int)), (7, int i64 (↑a : Int)), (30, int i64 (↑a : Int)), (36, int i64 (↑(List.length x.l) : Int)), (37, int i64 ((↑i : Int) + 1))] [cells false 2 (nth [encPacks x, encR gl]), cells false 8 fun (a : Nat) => int i64 (p a), cells false 2 (nth [encR (relOf x p i).needs, encR (relOf x p i).bars])] g)) ∧ ((!p i != -1) = false → (((↑a : Int) == 0) = true → 1 ≤ 2) ∧ (((↑a : Int) == 0) = true → 8 ≤ 8) ∧ (((↑a : Int) == 0) = true → true = true ∧ Does Try.prog R 44 [encR (relOf x p i).needs, fn 91 1 (nth [encPlan p]) 0 (nth [])] [cells false 2 (nth [encPacks x, encR gl]), cells false 8 fun (a : Nat) => int i64 (p a), cells false 2 (nth [encR (relOf x p i).needs, encR (relOf x p i).bars])] g (ret (AV.bool (List.all (relOf x p i).needs.l fun (r : Rng) => inR (p (Int.toNat r.pack)) r))) [cells false 2 (nth [encPacks x, encR gl]), cells false 8 fun (a : Nat) => int i64 (p a), cells false 2 (nth [encR (relOf x p i).needs, encR (relOf x p i).bars])] g) ∧ ((bif (↑a : Int) == 0 then !List.all (relOf x p i).needs.l fun (r : Rng) => inR (p (Int.toNat r.pack)) r else false) = true → Q (AEx.pan (ifc 83 (agg 2 (nth [int i64 2, int i64 (↑i : Int)])))) (St.mk [(2, ref 0 0), (3, ref 1 0), (6, int u64 (↑(neededN x gl.l p) : Int)), (7, int i64 (↑a : Int)), (30, int i64 (↑a : Int)), (36, int i64 (↑(List.length x.l) : Int)), (37, int i64 (↑i : Int))] [cells false 2 (nth [encPacks x, encR gl]), cells false 8 fun (a : Nat) => int i64 (p a), cells false 2 (nth [encR (relOf x p i).needs, encR (relOf x p i).bars])] g)) ∧ ((bif (↑a : Int) == 0 then !List.all (relOf x p i).needs.l fun (r : Rng) => inR (p (Int.toNat r.pack)) r else false) = false → (((↑a : Int) == 1) = true → 2 ≤ 2) ∧ (((↑a : Int) == 1) = true → 8 ≤ 8) ∧ (((↑a : Int) == 1) = true → true = true ∧ Does Try.prog R 74 [encR (relOf x p i).bars, fn 91 1 (nth [encPlan p]) 0 (nth [])] [cells false 2 (nth [encPacks x, encR gl]), cells false 8 fun (a : Nat) => int i64 (p a), cells false 2 (nth [encR (relOf x p i).needs, encR (relOf x p i).bars])] g (ret (AV.bool (List.any (relOf x p i).bars.l fun (r : Rng) => inR (p (Int.toNat r.pack)) r))) [cells false 2 (nth [encPacks x, encR gl]), cells false 8 fun (a : Nat) => int i64 (p a), cells false 2 (nth [encR (relOf x p i).needs, encR (relOf x p i).bars])] g) ∧ ((bif (↑a : Int) == 1 then List.any (relOf x p i).bars.l fun (r : Rng) => inR (p (Int.toNat r.pack)) r else false) = true → Q (AEx.pan (ifc 83 (agg 2 (nth [int i64 3, int i64 (↑i : Int)])))) (St.mk [(2, ref 0 0), (3, ref 1 0), (6, int u64 (↑(neededN x gl.l p) : Int)), (7, int i64 (↑a : Int)), (30, int i64 (↑a : Int)), (36, int i64 (↑(List.length x.l) : Int)), (37, int i64 (↑i : Int))] [cells false 2 (nth [encPacks x, encR gl]), cells false 8 fun (a : Nat) => int i64 (p a), cells false 2 (nth [encR (relOf x p i).needs, encR (relOf x p i).bars])] g)) ∧ ((bif (↑a : Int) == 1 then List.any (relOf x p i).bars.l fun (r : Rng) => inR (p (Int.toNat r.pack)) r else false) = false → (((↑a : Int) == 2) = true → 0 ≤ (↑i : Int)) ∧ ((bif (↑a : Int) == 2 then IntKind.wrap u64 (↑(BitVec.toNat (BitVec.ofInt 64 (Int.fdiv (↑(neededN x gl.l p) : Int) (2 ^ min i 64)) &&& BitVec.ofInt 64 1)) : Int) == 0 else false) = true → Q (AEx.pan (ifc 83 (agg 2 (nth [int i64 4, int i64 (↑i : Int)])))) (St.mk [(2, ref 0 0), (3, ref 1 0), (6, int u64 (↑(neededN x gl.l p) : Int)), (7, int i64 (↑a : Int)), (30, int i64 (↑a : Int)), (36, int i64 (↑(List.length x.l) : Int)), (37, int i64 (↑i : Int))] [cells false 2 (nth [encPacks x, encR gl]), cells false 8 fun (a : Nat) => int i64 (p a), cells false 2 (nth [encR (relOf x p i).needs, encR (relOf x p i).bars])] g)) ∧ ((bif (↑a : Int) == 2 then IntKind.wrap u64 (↑(BitVec.toNat (BitVec.ofInt 64 (Int.fdiv (↑(neededN x gl.l p) : Int) (2 ^ min i 64)) &&& BitVec.ofInt 64 1)) : Int) == 0 else false) = false → (-9223372036854775808 ≤ (↑i : Int) + 1 ∧ (↑i : Int) + 1 ≤ 9223372036854775807) ∧ Q AEx.normal (St.mk [(2, ref 0 0), (3, ref 1 0), (6, int u64 (↑(neededN x gl.l p) : Int)), (7, int i64 (↑a : Int)), (30, int i64 (↑a : Int)), (36, int i64 (↑(List.length x.l) : Int)), (37, int i64 ((↑i : Int) + 1))] [cells false 2 (nth [encPacks x, encR gl]), cells false 8 fun (a : Nat) => int i64 (p a), cells false 2 (nth [encR (relOf x p i).needs, encR (relOf x p i).bars])] g)))))) ∧ (decide ((↑i : Int) < (↑(List.length x.l) : Int)) = false → Q (AEx.exit 4) (St.mk [(2, ref 0 0), (3, ref 1 0), (6, int u64 (↑(neededN x gl.l p) : Int)), (7, int i64 (↑a : Int)), (30, int i64 (↑a : Int)), (36, int i64 (↑(List.length x.l) : Int)), (37, int i64 (↑i : Int)), (38, AV.bool (decide ((↑i : Int) < (↑(List.length x.l) : Int))))] [cells false 2 (nth [encPacks x, encR gl]), cells false 8 fun (a : Nat) => int i64 (p a)] g))) (fun _ => by kernel_rfl) ⟨fun c1 => have c1 : (↑i : Int) < (↑(List.length x.l) : Int) := (of_decide_eq_true c1); ⟨(by omega), ⟨(by omega), ⟨(fun _ _ => ⟨rfl, (Go.Avm.Pack.c_release _ _ _ _ _ _ _ (by omega) (by simp at * <;> omega) (by omega))⟩), ⟨(by omega), ⟨(fun c hc => match c, hc with | 0, _ => (by kernel_rfl) | 1, _ => (by kernel_rfl) ), ⟨fun c2 => have c2 : p i = -1 := (bne_eq_false_iff_eq.mp ((Bool.not_eq_true' _).mp c2)); ⟨(by omega), ?_⟩, fun c2 => have c2 : ¬p i = -1 := (bne_iff_ne.mp ((Bool.not_eq_false' _).mp c2)); ⟨(by omega), ⟨(by omega), ⟨(fun hgd => ⟨rfl, (Go.Avm.Pack.c_everyF_PackRange _ _ _ _ _ _ _ _ _ _ (by omega) (by kernel_rfl) (fun r _ => (Go.Avm.Pack.c_meets _ _ _ _ _ ?_ ?_)))⟩), ⟨fun c3 => have c3 : (↑a : Int) = 0 ∧ (List.all (relOf x p i).needs.l fun (r : Rng) => inR (p (Int.toNat r.pack)) r) = false := ⟨(beq_iff_eq.mp (cA_t c3).1), ((Bool.not_eq_true' _).mp (cA_t c3).2)⟩; ?_, fun c3 => have c3 : ¬(↑a : Int) = 0 ∨ (List.all (relOf x p i).needs.l fun (r : Rng) => inR (p (Int.toNat r.pack)) r) = true := ((cA_f c3).imp (fun h => (beq_eq_false_iff_ne.mp h)) (fun h => ((Bool.not_eq_false' _).mp h))); ⟨(by omega), ⟨(by omega), ⟨(fun hgd => ⟨rfl, (Go.Avm.Pack.c_ContainsFuncF_PackRange _ _ _ _ _ _ _ _ _ _ (by omega) (by kernel_rfl) (fun r _ => (Go.Avm.Pack.c_meets _ _ _ _ _ ?_ ?_)))⟩), ⟨fun c4 => have c4 : (↑a : Int) = 1 ∧ (List.any (relOf x p i).bars.l fun (r : Rng) => inR (p (Int.toNat r.pack)) r) = true := ⟨(beq_iff_eq.mp (cA_t c4).1), (cA_t c4).2⟩; ?_, fun c4 => have c4 : ¬(↑a : Int) = 1 ∨ (List.any (relOf x p i).bars.l fun (r : Rng) => inR (p (Int.toNat r.pack)) r) = false := ((cA_f c4).imp (fun h => (beq_eq_false_iff_ne.mp h)) (fun h => h)); ⟨(by omega), ⟨fun c5 => have c5 : (↑a : Int) = 2 ∧ IntKind.wrap u64 (↑(BitVec.toNat (BitVec.ofInt 64 (Int.fdiv (↑(neededN x gl.l p) : Int) (2 ^ min i 64)) &&& BitVec.ofInt 64 1)) : Int) = 0 := ⟨(beq_iff_eq.mp (cA_t c5).1), (beq_iff_eq.mp (cA_t c5).2)⟩; ?_, fun c5 => have c5 : ¬(↑a : Int) = 2 ∨ ¬IntKind.wrap u64 (↑(BitVec.toNat (BitVec.ofInt 64 (Int.fdiv (↑(neededN x gl.l p) : Int) (2 ^ min i 64)) &&& BitVec.ofInt 64 1)) : Int) = 0 := ((cA_f c5).imp (fun h => (beq_eq_false_iff_ne.mp h)) (fun h => (beq_eq_false_iff_ne.mp h))); ⟨(by omega), ?_⟩⟩⟩⟩⟩⟩⟩⟩⟩⟩⟩⟩⟩⟩⟩⟩⟩, fun c1 => have c1 : ¬(↑i : Int) < (↑(List.length x.l) : Int) := (of_decide_eq_false c1); ?_⟩
            · refine (next_round (i + 1) (to_sel [0, 1] 3 rfl rfl rfl rfl rfl ⟨(Le.refl _), ⟨(Le.refl _), ⟨(Le.refl _), ⟨(Le.refl _), ⟨(Le.refl _), ⟨(Le.refl _), ⟨(Le.refl _), trivial⟩⟩⟩⟩⟩⟩⟩ ⟨⟨rfl, Nat.le_refl _, fun j hj => match j, hj with | 0, _ => (Le.refl _) | 1, _ => (Le.refl _) ⟩, ⟨⟨rfl, Nat.le_refl _, fun j hj => match j, hj with | 0, _ => (Le.refl _) | 1, _ => (Le.refl _) | 2, _ => (Le.refl _) | 3, _ => (Le.refl _) | 4, _ => (Le.refl _) | 5, _ => (Le.refl _) | 6, _ => (Le.refl _) | 7, _ => (Le.refl _) ⟩, trivial⟩⟩) ?_ ?_)
              · refine ⟨by omega, fun k hk => ?_⟩
                rcases Nat.lt_or_ge k i with h | h
                · exact h6 k h
                · have : k = i := by omega
                  subst this
                  unfold badB
                  rw [c2]; rfl
              · omega
            · have := hw i (by omega) r (by assumption)
              omega
            · have := hw i (by omega) r (by assumption)
              omega
            · obtain ⟨e0, e1⟩ := c3
              have e0 : a = 0 := by omega
              subst e0
              have hbad : badB x gl.l p 0 i = true := by
                unfold badB
                rw [if_pos rfl, show (p i != -1) = true by simpa using c2, Bool.true_and]
                have e2 : (relOf x p i).needs.l.all (metB p) = false := e1
                rw [e2]; rfl
              rw [look_some hG h4 h6 (by omega) hbad h0]
              refine (panQ_take (P := Try.prog) (rs := []) 0 (by omega) ⟨⟨trivial, trivial⟩, trivial⟩ trivial (by kernel_rfl) rfl (Le.of_eq (by kernel_rfl)))
            · have := hwb i (by omega) r (by assumption)
              omega
            · have := hwb i (by omega) r (by assumption)
              omega
            · obtain ⟨e0, e1⟩ := c4
              have e0 : a = 1 := by omega
              subst e0
              have hbad : badB x gl.l p 1 i = true := by
                unfold badB
                rw [if_neg (by decide), if_pos rfl, show (p i != -1) = true by simpa using c2, Bool.true_and]
                exact e1
              rw [look_some hG h4 h6 (by omega) hbad h0]
              refine (panQ_take (P := Try.prog) (rs := []) 0 (by omega) ⟨⟨trivial, trivial⟩, trivial⟩ trivial (by kernel_rfl) rfl (Le.of_eq (by kernel_rfl)))
            · obtain ⟨e0, e1⟩ := c5
              have e0 : a = 2 := by omega
              subst e0
              rw [bit_test _ i (by omega) (by omega)] at e1
              have hbad : badB x gl.l p 2 i = true := by
                unfold badB
                rw [if_neg (by decide), if_neg (by decide), show (p i != -1) = true by simpa using c2, Bool.true_and]
                cases e : (neededN x gl.l p).testBit i with
                | false => rfl
                | true => rw [e] at e1; simp at e1
              rw [look_some hG h4 h6 (by omega) hbad h0]
              refine (panQ_take (P := Try.prog) (rs := []) 0 (by omega) ⟨⟨trivial, trivial⟩, trivial⟩ trivial (by kernel_rfl) rfl (Le.of_eq (by kernel_rfl)))
            · refine (next_round (i + 1) (to_sel [0, 1] 3 rfl rfl rfl rfl rfl ⟨(Le.refl _), ⟨(Le.refl _), ⟨(Le.refl _), ⟨(Le.refl _), ⟨(Le.refl _), ⟨(Le.refl _), ⟨(Le.refl _), trivial⟩⟩⟩⟩⟩⟩⟩ ⟨⟨rfl, Nat.le_refl _, fun j hj => match j, hj with | 0, _ => (Le.refl _) | 1, _ => (Le.refl _) ⟩, ⟨⟨rfl, Nat.le_refl _, fun j hj => match j, hj with | 0, _ => (Le.refl _) | 1, _ => (Le.refl _) | 2, _ => (Le.refl _) | 3, _ => (Le.refl _) | 4, _ => (Le.refl _) | 5, _ => (Le.refl _) | 6, _ => (Le.refl _) | 7, _ => (Le.refl _) ⟩, trivial⟩⟩) ?_ ?_)
              · refine ⟨by omega, fun k hk => ?_⟩
                rcases Nat.lt_or_ge k i with h | h
                · exact h6 k h
                · have : k = i := by omega
                  subst this
                  unfold badB
                  rw [show (p k != -1) = true by simpa using c2, Bool.true_and]
                  rcases (show a = 0 ∨ a = 1 ∨ a = 2 by omega) with e | e | e
                  · subst e
                    rw [if_pos rfl]
                    rcases c3 with h | h
                    · exact absurd rfl h
                    · have e2 : (relOf x p k).needs.l.all (metB p) = true := h
                      rw [e2]; rfl
                  · subst e
                    rw [if_neg (by decide), if_pos rfl]
                    rcases c4 with h | h
                    · exact absurd rfl h
                    · exact h
                  · subst e
                    rw [if_neg (by decide), if_neg (by decide)]
                    rcases c5 with h | h
                    · exact absurd rfl h
                    · rw [bit_test _ k (by omega) (by omega)] at h
                      cases e : (neededN x gl.l p).testBit k with
                      | true => rfl
                      | false => rw [e] at h; exact absurd rfl h
              · omega
            · refine ⟨_, To.refl _, vcQ [] (lkL [(23, [2, 3, 6, 30])]) (fun _ => []) (fun (Q : AEx → St R.σ → Prop) => (-9223372036854775808 ≤ (↑a : Int) + 1 ∧ (↑a : Int) + 1 ≤ 9223372036854775807) ∧ Q AEx.normal (St.mk [(2, ref 0 0), (3, ref 1 0), (6, int u64 (↑(neededN x gl.l p) : Int)), (30, int i64 ((↑a : Int) + 1))] [cells false 2 (nth [encPacks x, encR gl]), cells false 8 fun (a : Nat) => int i64 (p a)] g)) (fun _ => by kernel_rfl) ⟨(by omega), ?_⟩⟩
              refine (next_round (a + 1) (to_fr ⟨(Le.refl _), ⟨(Le.refl _), ⟨(Le.refl _), ⟨(Le.of_eq (by kernel_rfl)), trivial⟩⟩⟩⟩ rfl rfl) ?_ ?_)
              · refine ⟨by omega, fun b hb k hk => ?_⟩
                rcases Nat.lt_or_ge b a with h | h
                · exact h4 b h k hk
                · have : b = a := by omega
                  subst this
                  exact h6 k (by omega)
              · omega
        · rw [look_none hG (fun b hb => h4 b (by omega))]
          refine ⟨_, To.refl _, (retQ_le (retQ_drop _ _ rfl trivial trivial rfl) (Le.refl _))⟩
theorem c_look_t (R : Res) (x : Ix) (gl : KL Rng) (p : Nat → Int) (hp : List AObj) (g : R.σ) (hn : (lookR x gl.l p).isNone = true) (h8 : x.l.length ≤ 8) (h : inP x p) (hw : wfN x p) (hwb : wfB x p) (hl : smallN x p) (hlb : smallB' x p) (hg : gl.l.length < 1000000) (hgl : ∀ r ∈ gl.l, 0 ≤ r.pack ∧ r.pack < x.l.length) : Does Try.prog R 77 [encMkt x gl, encPlan p] hp g (.ret (.tup 0 (nth []))) hp g := by
  have := look_all R x gl p hp g h8 h hw hwb hl hlb hg hgl
  cases e : lookR x gl.l p with
  | none => rw [e] at this; exact this
  | some a => rw [e] at hn; cases hn
theorem c_look_p (R : Res) (x : Ix) (gl : KL Rng) (p : Nat → Int) (hp : List AObj) (g : R.σ) (f i : Int) (hn : lookR x gl.l p = some (f, i)) (h8 : x.l.length ≤ 8) (h : inP x p) (hw : wfN x p) (hwb : wfB x p) (hl : smallN x p) (hlb : smallB' x p) (hg : gl.l.length < 1000000) (hgl : ∀ r ∈ gl.l, 0 ≤ r.pack ∧ r.pack < x.l.length) : Does Try.prog R 77 [encMkt x gl, encPlan p] hp g (.pan (.ifc 83 (.agg 2 (nth [.int .i64 f, .int .i64 i])))) hp g := by
  have := look_all R x gl p hp g h8 h hw hwb hl hlb hg hgl
  rw [hn] at this
  exact this
end Go.Avm.Pack
namespace Go.Avm.Pack
open Go Go.Avm Go.Proofs
open Go.IntKind (i64 u64)
open Go.Avm.AV (int bool any fz fp sl ow ref fn ifc val agg tup)
open Go.Avm.AObj (cells dead)
open Go.Avm.Oc (ret)
set_option maxRecDepth 4000
def hpT (x : Ix) (gl : KL Rng) (p : Nat → Int) (f i : Int) : List AObj := [.cells false 2 (nth [encPacks x, encR gl]), .cells false 8 (fun a => .int .i64 (p a)), .cells false 2 (nth [.int .i64 f, .int .i64 i])]
theorem d_fault1 (R : Res) (x : Ix) (gl : KL Rng) (p : Nat → Int) (f i : Int) (g : R.σ) : DoesD Try.prog R 76 [.ref 2 0] (hpT x gl p 0 0) g (some (.ifc 83 (.agg 2 (nth [.int .i64 f, .int .i64 i])))) (hpT x gl p f i) g := by
  refine recover_wp (nt := ntOf Try.prog 76) (rs := resOf Try.prog 76) (k0 := 3) 4 1 (by kernel_rfl) (by kernel_rfl) (by kernel_rfl) rfl (by kernel_rfl) (by decide) (by decide) (by decide) (by decide) (by decide) ?_
  refine vcQ [] (lkL [(1, [0, 1, 6]), (2, [0, 1, 2, 3]), (3, [0, 1, 2, 13]), (4, [0, 2])]) (lkL [(2, [(6, ROrc.val (Orc.obj (nth [int i64 f, int i64 i])))]), (5, [(1, ROrc.val (Orc.obj (nth [int i64 f, int i64 i])))])]) (fun (Q : AEx → St R.σ → Prop) => (true = true → 2 ≤ 2 ∧ (∀ (c : Nat), c < 2 → nth [int i64 f, int i64 i] c = over (nth [int i64 0, int i64 0]) 0 2 (List.brecOn (motive := fun (x : List AV) => Nat → AV) [int i64 f, int i64 i] nth._f) c) ∧ (false = true → Q (AEx.pan (ifc 83 (agg 2 (nth [int i64 f, int i64 i])))) (St.mk [(0, ref 2 0), (2, ref 3 0)] [cells false 2 (nth [encPacks x, encR gl]), cells false 8 fun (a : Nat) => int i64 (p a), cells false 2 (nth [int i64 0, int i64 0]), cells false 2 (nth [int i64 f, int i64 i])] g)) ∧ (false = false → 2 ≤ 2 ∧ 2 ≤ 2 ∧ (∀ (c : Nat), c < 2 → nth [int i64 f, int i64 i] c = over (nth [int i64 0, int i64 0]) 0 2 (List.brecOn (motive := fun (x : List AV) => Nat → AV) [int i64 f, int i64 i] nth._f) c) ∧ Q AEx.normal (St.mk [] [cells false 2 (nth [encPacks x, encR gl]), cells false 8 fun (a : Nat) => int i64 (p a), cells false 2 (nth [int i64 f, int i64 i]), cells false 2 (nth [int i64 f, int i64 i])] g))) ∧ (true = false → Q AEx.normal (St.mk [(0, ref 2 0), (1, ifc 83 (agg 2 (nth [int i64 f, int i64 i]))), (6, AV.bool true)] [cells false 2 (nth [encPacks x, encR gl]), cells false 8 fun (a : Nat) => int i64 (p a), cells false 2 (nth [int i64 0, int i64 0])] g))) (fun _ => by kernel_rfl) ⟨fun _ => ⟨(by omega), ⟨(fun c hc => match c, hc with | 0, _ => (by kernel_rfl) | 1, _ => (by kernel_rfl) ), ⟨fun h => (nomatch h), fun _ => ⟨(by omega), ⟨(by omega), ⟨(fun c hc => match c, hc with | 0, _ => (by kernel_rfl) | 1, _ => (by kernel_rfl) ), ?_⟩⟩⟩⟩⟩⟩, fun h => (nomatch h)⟩
  refine (retQ_le (retQ_take' 3 _ _ rfl trivial (by omega) trivial ⟨(fun j hj => match j, hj with | 0, _ => trivial | 1, _ => trivial ), ⟨(fun j hj => match j, hj with | 0, _ => trivial | 1, _ => trivial | 2, _ => trivial | 3, _ => trivial | 4, _ => trivial | 5, _ => trivial | 6, _ => trivial | 7, _ => trivial ), ⟨(fun j hj => match j, hj with | 0, _ => trivial | 1, _ => trivial ), trivial⟩⟩⟩ (by kernel_rfl) rfl rfl) (Le.refl _))
theorem d_fault1n (R : Res) (x : Ix) (gl : KL Rng) (p : Nat → Int) (g : R.σ) : DoesD Try.prog R 76 [.ref 2 0] (hpT x gl p 0 0) g none (hpT x gl p 0 0) g := by
  refine recover_wp (nt := ntOf Try.prog 76) (rs := resOf Try.prog 76) (k0 := 3) 4 1 (by kernel_rfl) (by kernel_rfl) (by kernel_rfl) rfl (by kernel_rfl) (by decide) (by decide) (by decide) (by decide) (by decide) ?_
  refine vcQ [] (lkL [(1, [0, 1, 6]), (2, [0, 1, 2, 3]), (3, [0, 1, 2, 13]), (4, [0, 2])]) (lkL [(1, [(1, ROrc.own (AV.bool false) (hpT x gl p 0 0) g)]), (2, [(6, ROrc.val (Orc.obj (nth [int i64 0, int i64 0])))]), (5, [(1, ROrc.val (Orc.obj (nth [int i64 0, int i64 0])))])]) (fun (Q : AEx → St R.σ → Prop) => OpOk Try.prog R (Oper.mk (some 6) (Op.binOp BinOp.neq 20 (Operand.tmp 5) (Operand.const Value.nilIface) 20) 4 "pack.go:149" #[Edge.mk 0 Ground.data] none) (evO [Row.mk (some 5) none AV.nili false (some []) []] [(1, AV.nili), (0, ref 2 0)] []) [cells false 2 (nth [encPacks x, encR gl]), cells false 8 fun (a : Nat) => int i64 (p a), cells false 2 (nth [int i64 0, int i64 0])] g (AV.bool false) [cells false 2 (nth [encPacks x, encR gl]), cells false 8 fun (a : Nat) => int i64 (p a), cells false 2 (nth [int i64 0, int i64 0])] g ∧ (false = true → 2 ≤ 2 ∧ (∀ (c : Nat), c < 2 → nth [int i64 0, int i64 0] c = over (nth [int i64 0, int i64 0]) 0 2 (List.brecOn (motive := fun (x : List AV) => Nat → AV) [int i64 0, int i64 0] nth._f) c) ∧ (true = true → False) ∧ (true = false → 2 ≤ 2 ∧ 2 ≤ 2 ∧ (∀ (c : Nat), c < 2 → nth [int i64 0, int i64 0] c = over (nth [int i64 0, int i64 0]) 0 2 (List.brecOn (motive := fun (x : List AV) => Nat → AV) [int i64 0, int i64 0] nth._f) c) ∧ Q AEx.normal (St.mk [] [cells false 2 (nth [encPacks x, encR gl]), cells false 8 fun (a : Nat) => int i64 (p a), cells false 2 (nth [int i64 0, int i64 0]), cells false 2 (nth [int i64 0, int i64 0])] g))) ∧ (false = false → Q AEx.normal (St.mk [(0, ref 2 0), (1, AV.nili), (6, AV.bool false)] [cells false 2 (nth [encPacks x, encR gl]), cells false 8 fun (a : Nat) => int i64 (p a), cells false 2 (nth [int i64 0, int i64 0])] g))) (fun _ => by kernel_rfl) ⟨?_, ⟨fun h => (nomatch h), fun _ => ?_⟩⟩
  · exact opOk_neq_nil (ms := #[]) rfl rfl rfl (by kernel_rfl)
  · refine (retQ_le (retQ_same' _ _ rfl trivial rfl rfl rfl) (Le.refl _))
def faultOf (x : Ix) (gl : List Rng) (p : Nat → Int) : Int × Int := (lookR x gl p).getD (0, 0)
theorem c_fault (R : Res) (x : Ix) (gl : KL Rng) (p : Nat → Int) (hp : List AObj) (g : R.σ) (h8 : x.l.length ≤ 8) (h : inP x p) (hw : wfN x p) (hwb : wfB x p) (hl : smallN x p) (hlb : smallB' x p) (hg : gl.l.length < 1000000) (hgl : ∀ r ∈ gl.l, 0 ≤ r.pack ∧ r.pack < x.l.length) : Does Try.prog R 47 [encMkt x gl, encPlan p] hp g (.ret (.agg 2 (nth [.int .i64 (faultOf x gl.l p).1, .int .i64 (faultOf x gl.l p).2]))) hp g := by
  refine does_any' (fun R g => ?_) (by exact ⟨⟨⟨trivial, trivial⟩, trivial⟩, ⟨⟨⟨⟨⟨⟨⟨⟨⟨trivial, trivial⟩, trivial⟩, trivial⟩, trivial⟩, trivial⟩, trivial⟩, trivial⟩, trivial⟩, trivial⟩⟩) R hp g
  refine defer_wp (K := 76) (nt := ntOf Try.prog 47) (rs := resOf Try.prog 47) (k0 := 0) 5 [4] (by kernel_rfl) (by kernel_rfl) (by kernel_rfl) rfl (by kernel_rfl) (by kernel_rfl) (by decide) (by decide) ?_
  refine vcQ [] (lkL [(0, [2, 3, 4])]) (fun _ => []) (fun (Q : AEx → St R.σ → Prop) => Q AEx.normal (St.mk [(2, ref 0 0), (3, ref 1 0), (4, ref 2 0)] [cells false 2 (nth [encPacks x, encR gl]), cells false 8 fun (a : Nat) => int i64 (p a), cells false 2 (nth [int i64 0, int i64 0])] g)) (fun _ => by kernel_rfl) (?_)
  refine defA_wp 3 [.ref 2 0] rfl rfl rfl ?_
  cases e : lookR x gl.l p with
  | none =>
    have e' : (lookR x gl.l p).isNone = true := by rw [e]; rfl
    have hf : faultOf x gl.l p = (0, 0) := by unfold faultOf; rw [e]; rfl
    rw [hf]
    refine vcQ [] (lkL [(2, [4]), (3, [4])]) (lkL [(2, [(2, ROrc.pcall (tup 0 (nth [])))]), (3, [(1, ROrc.val (Orc.obj (nth [int i64 0, int i64 0])))])]) (fun (Q : AEx → St R.σ → Prop) => 2 ≤ 2 ∧ 8 ≤ 8 ∧ (∀ (hp : List AObj) (g : R.σ), true = true ∧ Does Try.prog R 77 [encMkt x gl, encPlan p] hp g (ret (tup 0 (nth []))) hp g) ∧ 2 ≤ 2 ∧ (∀ (c : Nat), c < 2 → nth [int i64 0, int i64 0] c = over (nth [int i64 0, int i64 0]) 0 2 (List.brecOn (motive := fun (x : List AV) => Nat → AV) [int i64 0, int i64 0] nth._f) c) ∧ Q AEx.ret (St.mk [(4, ref 2 0)] [cells false 2 (nth [encPacks x, encR gl]), cells false 8 fun (a : Nat) => int i64 (p a), cells false 2 (nth [int i64 0, int i64 0])] g)) (fun _ => by kernel_rfl) ⟨(by omega), ⟨(by omega), ⟨(fun _ _ => ⟨rfl, (Go.Avm.Pack.c_look_t _ _ _ _ _ _ (by omega) (by omega) (by omega) (by omega) (by omega) (by omega) (by omega) (by omega) (by omega))⟩), ⟨(by omega), ⟨(fun c hc => match c, hc with | 0, _ => (by kernel_rfl) | 1, _ => (by kernel_rfl) ), ?_⟩⟩⟩⟩⟩
    refine ⟨_, _, d_fault1n R x gl p g, ?_⟩
    refine (retQ_le (retQ_drop (agg 2 (nth [int i64 0, int i64 0])) ([0 + (TyI.mk ((fun (x : TypeInfo) => x.desc) Try.prog.types[82]) Try.prog.types[83].size Try.prog.types[83].bytes (cellA (ofVal (Value.agg #[Value.int i64 0, Value.int i64 0]))) (isAggD ((fun (x : TypeInfo) => x.desc) Try.prog.types[82])) (flatTy Try.prog 83)).size ≤ 2]) (by kernel_rfl) (by exact ⟨(by decide), trivial⟩) ⟨⟨trivial, trivial⟩, trivial⟩ rfl) (Le.refl _))
  | some a =>
    obtain ⟨f, i⟩ := a
    have hf : faultOf x gl.l p = (f, i) := by unfold faultOf; rw [e]; rfl
    rw [hf]
    refine vcQ [] (lkL [(2, [4])]) (lkL [(2, [(2, ROrc.cpan (ifc 83 (agg 2 (nth [int i64 f, int i64 i]))) [cells false 2 (nth [encPacks x, encR gl]), cells false 8 fun (a : Nat) => int i64 (p a), cells false 2 (nth [int i64 0, int i64 0])] g)])]) (fun (Q : AEx → St R.σ → Prop) => 2 ≤ 2 ∧ 8 ≤ 8 ∧ (true = true ∧ Does Try.prog R 77 [encMkt x gl, encPlan p] [cells false 2 (nth [encPacks x, encR gl]), cells false 8 fun (a : Nat) => int i64 (p a), cells false 2 (nth [int i64 0, int i64 0])] g (Oc.pan (ifc 83 (agg 2 (nth [int i64 f, int i64 i])))) [cells false 2 (nth [encPacks x, encR gl]), cells false 8 fun (a : Nat) => int i64 (p a), cells false 2 (nth [int i64 0, int i64 0])] g) ∧ Q (AEx.pan (ifc 83 (agg 2 (nth [int i64 f, int i64 i])))) (St.mk [(4, ref 2 0)] [cells false 2 (nth [encPacks x, encR gl]), cells false 8 fun (a : Nat) => int i64 (p a), cells false 2 (nth [int i64 0, int i64 0])] g)) (fun _ => by kernel_rfl) ⟨(by omega), ⟨(by omega), ⟨⟨rfl, (Go.Avm.Pack.c_look_p _ _ _ _ _ _ _ _ e (by omega) (by omega) (by omega) (by omega) (by omega) (by omega) (by omega) (by omega))⟩, ?_⟩⟩⟩
    refine ⟨_, _, d_fault1 R x gl p f i g, ?_⟩
    refine (retQ_le (retQ_drop (agg 2 (nth [int i64 f, int i64 i])) ([0 + (TyI.mk ((fun (x : TypeInfo) => x.desc) Try.prog.types[82]) Try.prog.types[83].size Try.prog.types[83].bytes (cellA (ofVal (Value.agg #[Value.int i64 0, Value.int i64 0]))) (isAggD ((fun (x : TypeInfo) => x.desc) Try.prog.types[82])) (flatTy Try.prog 83)).size ≤ 2]) (by kernel_rfl) (by exact ⟨(by decide), trivial⟩) ⟨⟨trivial, trivial⟩, trivial⟩ rfl) (Le.refl _))
end Go.Avm.Pack
namespace Go.Avm.Pack
open Go Go.Avm Go.Proofs
open Go.IntKind (i64 u64)
open Go.Avm.AV (int bool any fz fp sl ow ref fn ifc val agg tup)
open Go.Avm.AObj (cells dead)
open Go.Avm.Oc (ret)
set_option maxRecDepth 4000
theorem formed_rel {x : Ix} (h : formedB x = true) {i k : Nat} (hi : i < x.l.length) (hk : k < (x.l.getD i default).l.length) : relB x i ((x.l.getD i default).l.getD k default) = true := by
  unfold formedB at h
  simp only [Bool.and_eq_true] at h
  have h2 : ∀ j, j ∈ List.range x.l.length → relsB x j (x.l.getD j default).l = true := List.all_eq_true.1 h.2
  have h3 := h2 i (by simpa using hi)
  unfold relsB at h3
  simp only [Bool.and_eq_true] at h3
  exact List.all_eq_true.1 h3.2 _ (getD_mem _ _ hk)
theorem formed_le {x : Ix} (h : formedB x = true) : 1 ≤ x.l.length ∧ x.l.length ≤ 8 := by
  unfold formedB at h
  simp only [Bool.and_eq_true, decide_eq_true_eq] at h
  exact h.1
theorem ranged_pack {x : Ix} {r : Rng} (h : rangedB x r = true) : 0 ≤ r.pack ∧ r.pack < x.l.length := by
  unfold rangedB at h
  have := of_decide_eq_true h
  exact ⟨this.1, this.2.1⟩
theorem relOf_cases {x : Ix} (h : formedB x = true) {p : Nat → Int} (hp : inP x p) {i : Nat} (hi : i < x.l.length) : relOf x p i = noRel ∨ relB x i (relOf x p i) = true := by
  unfold relOf
  split
  · exact .inl rfl
  · rename_i hne
    have := hp i hi
    exact .inr (formed_rel h hi (by omega))
theorem formed_wfN {x : Ix} (h : formedB x = true) {p : Nat → Int} (hp : inP x p) : wfN x p := by
  intro i hi r hr
  rcases relOf_cases h hp hi with e | e
  · rw [e] at hr; cases hr
  · unfold relB at e
    simp only [Bool.and_eq_true] at e
    have := List.all_eq_true.1 e.1.2 r hr
    unfold otherB at this
    simp only [Bool.and_eq_true] at this
    exact ranged_pack this.1
theorem formed_wfB {x : Ix} (h : formedB x = true) {p : Nat → Int} (hp : inP x p) : wfB x p := by
  intro i hi r hr
  rcases relOf_cases h hp hi with e | e
  · rw [e] at hr; cases hr
  · unfold relB at e
    simp only [Bool.and_eq_true] at e
    have := List.all_eq_true.1 e.2 r hr
    unfold otherB at this
    simp only [Bool.and_eq_true] at this
    exact ranged_pack this.1
theorem relOf_beyond {x : Ix} {p : Nat → Int} {i : Nat} (hi : x.l.length ≤ i) : relOf x p i = noRel ∨ relOf x p i = default := by
  unfold relOf
  split
  · exact .inl rfl
  · right
    have : x.l.getD i default = default := by rw [List.getD_eq_getElem?_getD, List.getElem?_eq_none hi]; rfl
    rw [this]
    rfl
theorem formed_smallN {x : Ix} (h : formedB x = true) {p : Nat → Int} (hp : inP x p) : smallN x p := by
  intro i
  rcases Nat.lt_or_ge i x.l.length with hi | hi
  · rcases relOf_cases h hp hi with e | e
    · rw [e]; decide
    · unfold relB at e
      simp only [Bool.and_eq_true, decide_eq_true_eq] at e
      omega
  · rcases relOf_beyond (p := p) hi with e | e <;> rw [e] <;> decide
theorem formed_smallB {x : Ix} (h : formedB x = true) {p : Nat → Int} (hp : inP x p) : smallB' x p := by
  intro i
  rcases Nat.lt_or_ge i x.l.length with hi | hi
  · rcases relOf_cases h hp hi with e | e
    · rw [e]; decide
    · unfold relB at e
      simp only [Bool.and_eq_true, decide_eq_true_eq] at e
      omega
  · rcases relOf_beyond (p := p) hi with e | e <;> rw [e] <;> decide
theorem planned_inP {x : Ix} {l : List Int} (h : plannedB x l = true) : inP x (planOf l x.l.length) := by
  intro i hi
  have := (plannedB_iff.1 h).2 i hi
  unfold planOf
  rw [if_pos hi]
  exact this
def faultR (x : Ix) (gl : List Rng) (l : List Int) : Int × Int × Int :=
  if (checkB x gl && plannedB x l) = true then ((faultOf x gl (planOf l x.l.length)).1, (faultOf x gl (planOf l x.l.length)).2, 0) else (0, 0, 2)
theorem c_Fault (R : Res) (x : Ix) (gl : KL Rng) (l : KL Int) (hp : List AObj) (g : R.σ) (hs : small x) (hg : gl.l.length < 1000000) : Does Try.prog R 12 [encIx x, encR gl, encI l] hp g (.ret (.tup 3 (nth [.int .i64 (faultR x gl.l l.l).1, .int .i64 (faultR x gl.l l.l).2.1, .int .i64 (faultR x gl.l l.l).2.2]))) hp g := by
  refine does_any' (fun R g => ?_) (by exact ⟨⟨trivial, trivial⟩, ⟨trivial, ⟨trivial, trivial⟩⟩⟩) R hp g
  refine spec_of_wp (nt := 35) (rs := [.tmp 6, .tmp 7, .tmp 8]) (k0 := 0) (by kernel_rfl) (by kernel_rfl) (by kernel_rfl) rfl ?_
  cases hc : checkB x gl.l with
  | false =>
    have hf : faultR x gl.l l.l = (0, 0, 2) := by unfold faultR; rw [hc]; rfl
    rw [hf]
    refine vcQ [] (lkL [(0, [1, 2, 3]), (1, [1, 2, 3, 9]), (2, [2, 9, 19]), (3, [6, 7, 8]), (4, [9, 10, 11])]) (lkL [(1, [(4, ROrc.val (Orc.obj (nth [encPacks x, encR gl])))]), (2, [(2, ROrc.pcall (int i64 2))])]) (fun (Q : AEx → St R.σ → Prop) => 1 ≤ 1 ∧ 2 ≤ 2 ∧ (∀ (c : Nat), c < 2 → nth [encPacks x, encR gl] c = over (nth [fz Fz.nil 0 0 fun (x x_1 : Nat) => any, fz Fz.nil 0 0 fun (x x_1 : Nat) => any]) 0 2 (List.brecOn (motive := fun (x : List AV) => Nat → AV) [encPacks x, encR gl] nth._f) c) ∧ 1 ≤ 1 ∧ (∀ (hp : List AObj) (g : R.σ), true = true ∧ Does Try.prog R 11 [encIx x, encR gl] hp g (ret (int i64 2)) hp g) ∧ (true = true → Q AEx.ret (St.mk [(6, int i64 0), (7, int i64 0), (8, int i64 2)] [cells false 1 (nth [encPacks x]), cells false 2 (nth [encPacks x, encR gl])] g)) ∧ (true = false → False)) (fun _ => by kernel_rfl) ⟨(by omega), ⟨(by omega), ⟨(fun c hc => match c, hc with | 0, _ => (by kernel_rfl) | 1, _ => (by kernel_rfl) ), ⟨(by omega), ⟨(fun _ _ => ⟨rfl, (Go.Avm.Pack.c_Check_f _ _ _ _ _ (by omega) (by omega) (by omega))⟩), ⟨fun _ => ?_, fun h => (nomatch h)⟩⟩⟩⟩⟩⟩
    refine (retQ_le (retQ_drop _ _ rfl trivial ⟨⟨⟨trivial, trivial⟩, trivial⟩, trivial⟩ rfl) (Le.refl _))
  | true =>
    have hc' := hc
    unfold checkB at hc'
    simp only [Bool.and_eq_true] at hc'
    have hfo := hc'.1
    have h8 := (formed_le hfo).2
    have hgl : ∀ r ∈ gl.l, 0 ≤ r.pack ∧ r.pack < x.l.length := fun r hr => ranged_pack (List.all_eq_true.1 hc'.2.2 r hr)
    cases hpl : plannedB x l.l with
    | false =>
      have hf : faultR x gl.l l.l = (0, 0, 2) := by unfold faultR; rw [hc, hpl]; rfl
      rw [hf]
      refine vcQ [] (lkL [(0, [1, 2, 3]), (1, [1, 2, 3, 9]), (2, [2, 9, 19]), (3, [6, 7, 8]), (4, [9, 10, 11]), (5, [9, 10, 27]), (6, [6, 7, 8]), (7, [12])]) (lkL [(1, [(4, ROrc.val (Orc.obj (nth [encPacks x, encR gl])))]), (2, [(2, ROrc.pcall (int i64 0))]), (4, [(2, ROrc.pcall (tup 2 (nth [agg 8 fun (x : Nat) => any, AV.bool false]))), (7, ROrc.val (Orc.obj fun (x : Nat) => any))])]) (fun (Q : AEx → St R.σ → Prop) => 1 ≤ 1 ∧ 2 ≤ 2 ∧ (∀ (c : Nat), c < 2 → nth [encPacks x, encR gl] c = over (nth [fz Fz.nil 0 0 fun (x x_1 : Nat) => any, fz Fz.nil 0 0 fun (x x_1 : Nat) => any]) 0 2 (List.brecOn (motive := fun (x : List AV) => Nat → AV) [encPacks x, encR gl] nth._f) c) ∧ 1 ≤ 1 ∧ (∀ (hp : List AObj) (g : R.σ), true = true ∧ Does Try.prog R 11 [encIx x, encR gl] hp g (ret (int i64 0)) hp g) ∧ (false = true → Q AEx.ret (St.mk [(6, int i64 0), (7, int i64 0), (8, int i64 2)] [cells false 1 (nth [encPacks x]), cells false 2 (nth [encPacks x, encR gl])] g)) ∧ (false = false → 2 ≤ 2 ∧ (∀ (hp : List AObj) (g : R.σ), true = true ∧ Does Try.prog R 46 [encMkt x gl, encI l] hp g (ret (tup 2 (nth [agg 8 fun (x : Nat) => any, AV.bool false]))) hp g) ∧ 8 ≤ 8 ∧ (∀ (c : Nat), c < 8 → any = over (nth [int i64 0, int i64 0, int i64 0, int i64 0, int i64 0, int i64 0, int i64 0, int i64 0]) 0 8 (fun (x : Nat) => any) c) ∧ (true = true → Q AEx.ret (St.mk [(6, int i64 0), (7, int i64 0), (8, int i64 2)] [cells false 1 (nth [encPacks x]), cells false 2 (nth [encPacks x, encR gl]), cells false 8 fun (x : Nat) => any] g)) ∧ (true = false → False))) (fun _ => by kernel_rfl) ⟨(by omega), ⟨(by omega), ⟨(fun c hc => match c, hc with | 0, _ => (by kernel_rfl) | 1, _ => (by kernel_rfl) ), ⟨(by omega), ⟨(fun _ _ => ⟨rfl, (Go.Avm.Pack.c_Check_t _ _ _ _ _ (by omega) (by omega) (by omega))⟩), ⟨fun h => (nomatch h), fun _ => ⟨(by omega), ⟨(fun _ _ => ⟨rfl, (Go.Avm.Pack.c_planned_f _ _ _ _ _ _ (by omega) (by omega) (by omega))⟩), ⟨(by omega), ⟨(fun c hc => match c, hc with | 0, _ => (by kernel_rfl) | 1, _ => (by kernel_rfl) | 2, _ => (by kernel_rfl) | 3, _ => (by kernel_rfl) | 4, _ => (by kernel_rfl) | 5, _ => (by kernel_rfl) | 6, _ => (by kernel_rfl) | 7, _ => (by kernel_rfl) ), ⟨fun _ => ?_, fun h => (nomatch h)⟩⟩⟩⟩⟩⟩⟩⟩⟩⟩⟩
      refine (retQ_le (retQ_drop _ _ rfl trivial ⟨⟨⟨trivial, trivial⟩, trivial⟩, trivial⟩ rfl) (Le.refl _))
    | true =>
      have hin := planned_inP hpl
      have hN := formed_wfN hfo hin
      have hB := formed_wfB hfo hin
      have hN' := formed_smallN hfo hin
      have hB' := formed_smallB hfo hin
      have hf : faultR x gl.l l.l = ((faultOf x gl.l (planOf l.l x.l.length)).1, (faultOf x gl.l (planOf l.l x.l.length)).2, 0) := by unfold faultR; rw [hc, hpl]; rfl
      rw [hf]
      refine vcQ [] (lkL [(0, [1, 2, 3]), (1, [1, 2, 3, 9]), (2, [2, 9, 19]), (3, [6, 7, 8]), (4, [9, 10, 11]), (5, [9, 10, 27]), (6, [6, 7, 8]), (7, [12]), (8, [6, 7, 8])]) (lkL [(1, [(4, ROrc.val (Orc.obj (nth [encPacks x, encR gl])))]), (2, [(2, ROrc.pcall (int i64 0))]), (4, [(2, ROrc.pcall (tup 2 (nth [encPlan (planOf l.l (List.length x.l)), AV.bool true]))), (7, ROrc.val (Orc.obj fun (j : Nat) => int i64 (planOf l.l (List.length x.l) j)))]), (7, [(2, ROrc.pcall (agg 2 (nth [int i64 (faultOf x gl.l (planOf l.l (List.length x.l))).fst, int i64 (faultOf x gl.l (planOf l.l (List.length x.l))).snd]))), (4, ROrc.val (Orc.obj (nth [int i64 (faultOf x gl.l (planOf l.l (List.length x.l))).fst, int i64 (faultOf x gl.l (planOf l.l (List.length x.l))).snd])))])]) (fun (Q : AEx → St R.σ → Prop) => 1 ≤ 1 ∧ 2 ≤ 2 ∧ (∀ (c : Nat), c < 2 → nth [encPacks x, encR gl] c = over (nth [fz Fz.nil 0 0 fun (x x_1 : Nat) => any, fz Fz.nil 0 0 fun (x x_1 : Nat) => any]) 0 2 (List.brecOn (motive := fun (x : List AV) => Nat → AV) [encPacks x, encR gl] nth._f) c) ∧ 1 ≤ 1 ∧ (∀ (hp : List AObj) (g : R.σ), true = true ∧ Does Try.prog R 11 [encIx x, encR gl] hp g (ret (int i64 0)) hp g) ∧ (false = true → Q AEx.ret (St.mk [(6, int i64 0), (7, int i64 0), (8, int i64 2)] [cells false 1 (nth [encPacks x]), cells false 2 (nth [encPacks x, encR gl])] g)) ∧ (false = false → 2 ≤ 2 ∧ (∀ (hp : List AObj) (g : R.σ), true = true ∧ Does Try.prog R 46 [encMkt x gl, encI l] hp g (ret (tup 2 (nth [encPlan (planOf l.l (List.length x.l)), AV.bool true]))) hp g) ∧ 8 ≤ 8 ∧ (∀ (c : Nat), c < 8 → int i64 (planOf l.l (List.length x.l) c) = over (nth [int i64 0, int i64 0, int i64 0, int i64 0, int i64 0, int i64 0, int i64 0, int i64 0]) 0 8 (fun (j : Nat) => int i64 (planOf l.l (List.length x.l) j)) c) ∧ (false = true → Q AEx.ret (St.mk [(6, int i64 0), (7, int i64 0), (8, int i64 2)] [cells false 1 (nth [encPacks x]), cells false 2 (nth [encPacks x, encR gl]), cells false 8 fun (j : Nat) => int i64 (planOf l.l (List.length x.l) j)] g)) ∧ (false = false → 2 ≤ 2 ∧ 8 ≤ 8 ∧ (∀ (hp : List AObj) (g : R.σ), true = true ∧ Does Try.prog R 47 [encMkt x gl, encPlan (planOf l.l (List.length x.l))] hp g (ret (agg 2 (nth [int i64 (faultOf x gl.l (planOf l.l (List.length x.l))).fst, int i64 (faultOf x gl.l (planOf l.l (List.length x.l))).snd]))) hp g) ∧ 2 ≤ 2 ∧ (∀ (c : Nat), c < 2 → nth [int i64 (faultOf x gl.l (planOf l.l (List.length x.l))).fst, int i64 (faultOf x gl.l (planOf l.l (List.length x.l))).snd] c = over (nth [int i64 0, int i64 0]) 0 2 (List.brecOn (motive := fun (x : List AV) => Nat → AV) [int i64 (faultOf x gl.l (planOf l.l (List.length x.l))).fst, int i64 (faultOf x gl.l (planOf l.l (List.length x.l))).snd] nth._f) c) ∧ Tables.follows Try.prog.toTables Departure.mixedOrders = true ∧ 1 ≤ 2 ∧ 2 ≤ 2 ∧ Q AEx.ret (St.mk [(6, int i64 (faultOf x gl.l (planOf l.l (List.length x.l))).fst), (7, int i64 (faultOf x gl.l (planOf l.l (List.length x.l))).snd), (8, int i64 0)] [cells false 1 (nth [encPacks x]), cells false 2 (nth [encPacks x, encR gl]), cells false 8 fun (j : Nat) => int i64 (planOf l.l (List.length x.l) j), cells false 2 (nth [int i64 (faultOf x gl.l (planOf l.l (List.length x.l))).fst, int i64 (faultOf x gl.l (planOf l.l (List.length x.l))).snd])] g)))) (fun _ => by kernel_rfl) ⟨(by omega), ⟨(by omega), ⟨(fun c hc => match c, hc with | 0, _ => (by kernel_rfl) | 1, _ => (by kernel_rfl) ), ⟨(by omega), ⟨(fun _ _ => ⟨rfl, (Go.Avm.Pack.c_Check_t _ _ _ _ _ (by omega) (by omega) (by omega))⟩), ⟨fun h => (nomatch h), fun _ => ⟨(by omega), ⟨(fun _ _ => ⟨rfl, (Go.Avm.Pack.c_planned_t _ _ _ _ _ _ (by omega) (by omega) (by omega))⟩), ⟨(by omega), ⟨(fun c hc => match c, hc with | 0, _ => (by kernel_rfl) | 1, _ => (by kernel_rfl) | 2, _ => (by kernel_rfl) | 3, _ => (by kernel_rfl) | 4, _ => (by kernel_rfl) | 5, _ => (by kernel_rfl) | 6, _ => (by kernel_rfl) | 7, _ => (by kernel_rfl) ), ⟨fun h => (nomatch h), fun _ => ⟨(by omega), ⟨(by omega), ⟨(fun _ _ => ⟨rfl, (Go.Avm.Pack.c_fault _ _ _ _ _ _ (by omega) (by omega) (by omega) (by omega) (by omega) (by omega) (by omega) (by omega))⟩), ⟨(by omega), ⟨(fun c hc => match c, hc with | 0, _ => (by kernel_rfl) | 1, _ => (by kernel_rfl) ), ⟨(by kernel_rfl), ⟨(by omega), ⟨(by omega), ?_⟩⟩⟩⟩⟩⟩⟩⟩⟩⟩⟩⟩⟩⟩⟩⟩⟩⟩⟩
      refine (retQ_le (retQ_drop _ _ rfl trivial ⟨⟨⟨trivial, trivial⟩, trivial⟩, trivial⟩ rfl) (Le.refl _))
end Go.Avm.Pack
namespace Go.Avm.Pack
open Go Go.Avm Go.Proofs
open Go.IntKind (i64 u64)
open Go.Avm.AV (int bool any fz fp sl ow ref fn ifc val agg tup)
open Go.Avm.AObj (cells dead)
open Go.Avm.Oc (ret)
set_option maxRecDepth 4000

abbrev ndf (x : Ix) (p : Nat → Int) (n : Nat) : Nat → Rng → Nat := fun s r => dfs x p n s r.pack.toNat
theorem room_zero {s i : Nat} (h : room s ≤ 0) (hi : i < 8) : s.testBit i = true := by
  cases e : s.testBit i with
  | true => rfl
  | false => have := room_set hi e; omega
theorem dfs_has {x : Ix} {p : Nat → Int} {n s i : Nat} (hr : room s ≤ n) (hi : i < 8) : (dfs x p n s i).testBit i = true := by
  cases n with
  | zero => exact room_zero hr hi
  | succ n =>
    unfold dfs
    split
    · rename_i h; exact h
    · refine foldl_keep (P := fun s => s.testBit i = true) (fun s hs a _ => dfs_grows x p n s _ i hs) ?_
      rw [testBit_set]; simp
theorem foldl_grows (x : Ix) (p : Nat → Int) (n : Nat) (l : List Rng) (s b : Nat) (h : s.testBit b = true) : (l.foldl (ndf x p n) s).testBit b = true :=
  foldl_keep (P := fun s => s.testBit b = true) (fun s hs a _ => dfs_grows x p n s _ b hs) h
theorem foldl_closed {x : Ix} {p : Nat → Int} {n : Nat} (h8 : x.l.length ≤ 8)
    (hd : ∀ (s i : Nat), room s ≤ n → i < x.l.length → ∀ j, (dfs x p n s i).testBit j = true → s.testBit j = true ∨ ∀ r ∈ (relOf x p j).needs.l, (dfs x p n s i).testBit r.pack.toNat = true) :
    ∀ (l : List Rng) (s : Nat), (∀ r ∈ l, 0 ≤ r.pack ∧ r.pack < x.l.length) → room s ≤ n →
      (∀ r ∈ l, (l.foldl (ndf x p n) s).testBit r.pack.toNat = true) ∧ ∀ j, (l.foldl (ndf x p n) s).testBit j = true → s.testBit j = true ∨ ∀ r ∈ (relOf x p j).needs.l, (l.foldl (ndf x p n) s).testBit r.pack.toNat = true
  | [], s, _, _ => ⟨fun r hr => (by cases hr), fun j hj => .inl hj⟩
  | a :: l, s, hl, hr => by
    have ha := hl a List.mem_cons_self
    have hr' : room (ndf x p n s a) ≤ n := Nat.le_trans (room_le (s := s) (fun b hb => dfs_grows x p n s _ b hb)) hr
    obtain ⟨h1, h2⟩ := foldl_closed h8 hd l (ndf x p n s a) (fun r hr => hl r (List.mem_cons_of_mem _ hr)) hr'
    rw [List.foldl_cons]
    refine ⟨fun r hr0 => ?_, fun j hj => ?_⟩
    · rcases List.mem_cons.1 hr0 with e | e
      · subst e
        exact foldl_grows x p n l _ _ (dfs_has hr (by omega))
      · exact h1 r e
    · rcases h2 j hj with e | e
      · rcases hd s _ hr (by omega) j e with e | e
        · exact .inl e
        · exact .inr fun r hr0 => foldl_grows x p n l _ _ (e r hr0)
      · exact .inr e
theorem dfs_closed {x : Ix} {p : Nat → Int} (h8 : x.l.length ≤ 8) (hw : wfN x p) : ∀ (n s i : Nat), room s ≤ n → i < x.l.length → ∀ j, (dfs x p n s i).testBit j = true → s.testBit j = true ∨ ∀ r ∈ (relOf x p j).needs.l, (dfs x p n s i).testBit r.pack.toNat = true
  | 0, _, _, _, _, _, h => .inl h
  | n + 1, s, i, hr, hi, j, h => by
    unfold dfs at h ⊢
    split at h
    · exact .inl h
    · rename_i ht
      have ht : s.testBit i = false := by cases e : s.testBit i with
        | false => rfl
        | true => exact absurd e ht
      have hroom := room_set (by omega) ht
      obtain ⟨h1, h2⟩ := foldl_closed h8 (dfs_closed h8 hw n) (relOf x p i).needs.l (s ||| 2 ^ i) (hw i hi) (by omega)
      rw [if_neg (by simp [ht])]
      rcases h2 j h with e | e
      · rw [testBit_set] at e
        cases es : s.testBit j with
        | true => exact .inl rfl
        | false =>
          rw [es] at e
          have e : i = j := by simpa using e
          subst e
          exact .inr h1
      · exact .inr e
theorem dfs_least {x : Ix} {p : Nat → Int} {T : Nat → Prop} (hT : ∀ i, T i → ∀ r ∈ (relOf x p i).needs.l, T r.pack.toNat) : ∀ (n s i : Nat), T i → (∀ b, s.testBit b = true → T b) → ∀ b, (dfs x p n s i).testBit b = true → T b
  | 0, _, _, _, hs => hs
  | n + 1, s, i, hi, hs => by
    unfold dfs
    split
    · exact hs
    · refine foldl_keep (P := fun s => ∀ b, s.testBit b = true → T b) (fun s hs r hr => dfs_least hT n s _ (hT i hi r hr) hs) (fun b hb => ?_)
      rw [testBit_set] at hb
      cases es : s.testBit b with
      | true => exact hs b es
      | false =>
        rw [es] at hb
        have e : i = b := by simpa using hb
        exact e ▸ hi
theorem room_eight (s : Nat) : room s ≤ 8 := Nat.le_trans (List.length_filter_le _ _) (by simp)
theorem needed_goals {x : Ix} {gl : List Rng} {p : Nat → Int} (h8 : x.l.length ≤ 8) (hw : wfN x p) (hgl : ∀ r ∈ gl, 0 ≤ r.pack ∧ r.pack < x.l.length) : ∀ r ∈ gl, (neededN x gl p).testBit r.pack.toNat = true :=
  (foldl_closed h8 (dfs_closed h8 hw 8) gl 0 hgl (room_eight 0)).1
theorem needed_closed {x : Ix} {gl : List Rng} {p : Nat → Int} (h8 : x.l.length ≤ 8) (hw : wfN x p) (hgl : ∀ r ∈ gl, 0 ≤ r.pack ∧ r.pack < x.l.length) (j : Nat) (h : (neededN x gl p).testBit j = true) : ∀ r ∈ (relOf x p j).needs.l, (neededN x gl p).testBit r.pack.toNat = true := by
  rcases (foldl_closed h8 (dfs_closed h8 hw 8) gl 0 hgl (room_eight 0)).2 j h with e | e
  · simp at e
  · exact e
theorem needed_least {x : Ix} {gl : List Rng} {p : Nat → Int} {T : Nat → Prop} (hg : ∀ r ∈ gl, T r.pack.toNat) (hT : ∀ i, T i → ∀ r ∈ (relOf x p i).needs.l, T r.pack.toNat) (b : Nat) (h : (neededN x gl p).testBit b = true) : T b :=
  foldl_keep (P := fun s => ∀ b, s.testBit b = true → T b) (fun s hs r hr => dfs_least hT 8 s _ (hg r hr) hs) (fun b hb => by simp at hb) b h
end Go.Avm.Pack
namespace Go.Avm.Pack
open Go Go.Avm Go.Proofs
open Go.IntKind (i64 u64)
open Go.Avm.AV (int bool any fz fp sl ow ref fn ifc val agg tup)
open Go.Avm.AObj (cells dead)
open Go.Avm.Oc (ret)
set_option maxRecDepth 4000
def setCells (s : Nat) : Nat → AV := fun j => .bool (s.testBit j)
theorem over_set (s i j : Nat) : over (fun a => AV.bool (s.testBit a)) i 1 (fun _ => AV.bool true) j = setCells (s ||| 2 ^ i) j := by
  rw [over_eq]
  unfold setCells
  rw [testBit_set]
  split
  · rename_i h
    have : i = j := by omega
    simp [this]
  · rename_i h
    have : ¬ i = j := by omega
    simp [this]
def Inv (z n s : Nat) (c : Bool) (q : Prop) : Prop := (∀ b, z.testBit b = true → s.testBit b = true) ∧ (∀ b, s.testBit b = true → n.testBit b = true) ∧ (c = false → s = z ∧ q) ∧ (c = true → room s < room z)
theorem or_same {s i : Nat} (h : s.testBit i = true) : s ||| 2 ^ i = s := Nat.eq_of_testBit_eq fun b => by
  rw [testBit_set]
  by_cases e : i = b
  · subst e; rw [h]; rfl
  · simp [e]
theorem Inv.step {z n s i : Nat} {c : Bool} {q : Prop} (h : Inv z n s c q) (hi : i < 8) (hn : n.testBit i = true) : Inv z n (s ||| 2 ^ i) (c || !s.testBit i) (q ∧ z.testBit i = true) := by
  obtain ⟨h1, h2, h3, h4⟩ := h
  refine ⟨fun b hb => by rw [testBit_set, h1 b hb]; rfl, fun b hb => ?_, fun hc => ?_, fun hc => ?_⟩
  · rw [testBit_set] at hb
    by_cases e : i = b
    · exact e ▸ hn
    · refine h2 b ?_
      simpa [e] using hb
  · have hc' : c = false ∧ s.testBit i = true := by simpa using hc
    obtain ⟨e1, e2⟩ := h3 hc'.1
    rw [or_same hc'.2]
    exact ⟨e1, e2, e1 ▸ hc'.2⟩
  · cases e : s.testBit i with
    | true =>
      rw [or_same e]
      refine h4 ?_
      simpa [e] using hc
    | false => exact Nat.lt_of_lt_of_le (room_set hi e) (room_le h1)
theorem rneeded_all (R : Res) (x : Ix) (gl : KL Rng) (l : KL Int) (p : Nat → Int) (g : R.σ) (hs : small x) (h8 : x.l.length ≤ 8) (hll : l.l.length = x.l.length) (hp : ∀ i, i < x.l.length → p i = l.l.getD i 0) (hin : inP x p) (hw : wfN x p) (hl : smallN x p) (hg : gl.l.length < 1000000) (hgl : ∀ r ∈ gl.l, 0 ≤ r.pack ∧ r.pack < x.l.length) :
    Does Try.prog R 52 [encIx x, encR gl, encI l] [] g (.ret (.sl 1 0 l.l.length l.l.length true 1)) [.cells false 1 (nth [encPacks x]), .cells false (l.l.length * 1) (setCells (neededN x gl.l p))] g := by
  have hN1 := needed_goals h8 hw hgl
  have hN2 := needed_closed h8 hw hgl
  refine spec_of_wp (nt := 86) (rs := [.tmp 6]) (k0 := 0) (by kernel_rfl) (by kernel_rfl) (by kernel_rfl) rfl ?_
  refine vcQ [] (lkL [(0, [1, 2, 3]), (1, [1, 2, 3, 7]), (2, [1, 2, 3, 7, 8])]) (fun _ => []) (fun (Q : AEx → St R.σ → Prop) => 0 ≤ (↑(List.length l.l) : Int) ∧ (↑(List.length l.l) : Int) ≤ (↑(List.length l.l) : Int) ∧ (↑(List.length l.l) : Int) ≤ 140737488355328 ∧ List.length l.l * 1 ≤ maxRoom ∧ Wp Try.prog R 86 0 Rd.top (bodyOf Try.prog 52) [1, 1, 0, 1, 0] (contQ Try.prog R 86 0 Rd.top (bodyOf Try.prog 52) Q [Kont.blk 0, Kont.seq [1, 1, 1]]) (St.mk [(1, encR gl), (2, encI l), (3, ref 0 0), (7, sl 1 0 (List.length l.l) (List.length l.l) true 1), (8, int i64 0)] [cells false 1 (nth [encPacks x]), cells false (List.length l.l * 1) fun (j : Nat) => AV.bool false] g)) (fun _ => by kernel_rfl) ⟨(by omega), ⟨(by omega), ⟨(by omega), ⟨?_, ?_⟩⟩⟩⟩
  · show l.l.length * 1 ≤ _
    unfold maxRoom; omega
  refine (wp_loop (by kernel_rfl) (fun (y : Nat × Nat) => ⟨[(1, encR gl), (2, encI l), (3, ref 0 0), (7, sl 1 0 (List.length l.l) (List.length l.l) true 1), (8, .int .i64 (y.1 : Int))], [.cells false 1 (nth [encPacks x]), .cells false (l.l.length * 1) (setCells y.2)], g⟩) (fun (y : Nat × Nat) => (y.1 ≤ gl.l.length ∧ (∀ j, j < y.1 → y.2.testBit (gl.l.getD j default).pack.toNat = true) ∧ ∀ b, y.2.testBit b = true → (neededN x gl.l p).testBit b = true)) (fun (y : Nat × Nat) => (gl.l.length - y.1)) ((0, 0) : Nat × Nat) (to_le ⟨(Le.refl _), ⟨(Le.refl _), ⟨(Le.refl _), ⟨(Le.refl _), ⟨(Le.of_eq (by kernel_rfl)), trivial⟩⟩⟩⟩⟩ ⟨LeO.rflc, ⟨?_, trivial⟩⟩ rfl) ?_ (fun y hi => ?_))
  · refine LeO.cells (fun j hj => ?_)
    unfold setCells
    simp
  · exact ⟨Nat.zero_le _, fun j hj => absurd hj (Nat.not_lt_zero _), fun b hb => by simp at hb⟩
  · obtain ⟨h1, h2, h3⟩ := hi
    have hj : y.1 < gl.l.length → 0 ≤ (gl.l.getD y.1 default).pack ∧ (gl.l.getD y.1 default).pack < x.l.length := fun hj => hgl _ (getD_mem _ _ hj)
    refine vcQ [] (lkL [(3, [1, 2, 3, 7, 8, 19]), (5, [1, 2, 3, 7, 8]), (4, [1, 2, 3, 7, 8])]) (fun _ => []) (fun (Q : AEx → St R.σ → Prop) => (decide ((↑y.fst : Int) < (↑(List.length gl.l) : Int)) = true → (0 ≤ (↑y.fst : Int) ∧ (↑y.fst : Int) < (↑(List.length gl.l) : Int)) ∧ 1 ≤ 3 ∧ (0 ≤ (List.getD gl.l y.fst default).pack ∧ (List.getD gl.l y.fst default).pack < (↑(List.length l.l) : Int)) ∧ Int.toNat (List.getD gl.l y.fst default).pack + 1 ≤ List.length l.l * 1 ∧ (-9223372036854775808 ≤ (↑y.fst : Int) + 1 ∧ (↑y.fst : Int) + 1 ≤ 9223372036854775807) ∧ Q AEx.normal (St.mk [(1, encR gl), (2, encI l), (3, ref 0 0), (7, sl 1 0 (List.length l.l) (List.length l.l) true 1), (8, int i64 ((↑y.fst : Int) + 1))] [cells false 1 (nth [encPacks x]), cells false (List.length l.l * 1) (over (fun (a : Nat) => AV.bool (Nat.testBit y.snd a)) (Int.toNat (List.getD gl.l y.fst default).pack) 1 fun (x : Nat) => AV.bool true)] g)) ∧ (decide ((↑y.fst : Int) < (↑(List.length gl.l) : Int)) = false → Q (AEx.exit 0) (St.mk [(1, encR gl), (2, encI l), (3, ref 0 0), (7, sl 1 0 (List.length l.l) (List.length l.l) true 1), (8, int i64 (↑y.fst : Int)), (19, AV.bool (decide ((↑y.fst : Int) < (↑(List.length gl.l) : Int))))] [cells false 1 (nth [encPacks x]), cells false (List.length l.l * 1) fun (a : Nat) => AV.bool (Nat.testBit y.snd a)] g))) (fun _ => by kernel_rfl) ⟨fun c1 => have c1 : (↑y.fst : Int) < (↑(List.length gl.l) : Int) := (of_decide_eq_true c1); ⟨(by omega), ⟨(by omega), ⟨(by omega), ⟨(by omega), ⟨(by omega), ?_⟩⟩⟩⟩⟩, fun c1 => have c1 : ¬(↑y.fst : Int) < (↑(List.length gl.l) : Int) := (of_decide_eq_false c1); ?_⟩
    · refine (next_round (y.1 + 1, y.2 ||| 2 ^ (gl.l.getD y.1 default).pack.toNat) (to_le ⟨(Le.refl _), ⟨(Le.refl _), ⟨(Le.refl _), ⟨(Le.refl _), ⟨(Le.of_eq (by kernel_rfl)), trivial⟩⟩⟩⟩⟩ ⟨LeO.rflc, ⟨?_, trivial⟩⟩ rfl) ?_ ?_)
      · exact LeO.cells (fun j hj => over_set _ _ j)
      · refine ⟨by show y.1 + 1 ≤ _; omega, fun j hj => ?_, fun b hb => ?_⟩
        · show (y.2 ||| 2 ^ _).testBit _ = true
          rw [testBit_set]
          rcases Nat.lt_or_ge j y.1 with h | h
          · rw [h2 j h]; rfl
          · have hj : j < y.1 + 1 := hj
            have : j = y.1 := by omega
            subst this
            simp
        · have hb : (y.2 ||| 2 ^ (gl.l.getD y.1 default).pack.toNat).testBit b = true := hb
          rw [testBit_set] at hb
          cases e : y.2.testBit b with
          | true => exact h3 b e
          | false =>
            rw [e] at hb
            have e : (gl.l.getD y.1 default).pack.toNat = b := by simpa using hb
            rw [← e]
            exact hN1 _ (getD_mem _ _ (by omega))
      · show gl.l.length - (y.1 + 1) < _
        omega
    · have hG : ∀ r ∈ gl.l, y.2.testBit r.pack.toNat = true := by
        intro r hr
        obtain ⟨j, hj, rfl⟩ := List.getElem_of_mem hr
        have := h2 j (by omega)
        simpa [List.getD, hj] using this
      refine ⟨_, To.refl _, vcQ [] (lkL [(6, [2, 3, 7, 9])]) (fun _ => []) (fun (Q : AEx → St R.σ → Prop) => Wp Try.prog R 86 0 Rd.top (bodyOf Try.prog 52) [1, 1, 1, 0, 1, 0] (contQ Try.prog R 86 0 Rd.top (bodyOf Try.prog 52) Q [Kont.blk 2, Kont.seq [1, 1, 1, 1]]) (St.mk [(2, encI l), (3, ref 0 0), (7, sl 1 0 (List.length l.l) (List.length l.l) true 1), (9, AV.bool true)] [cells false 1 (nth [encPacks x]), cells false (List.length l.l * 1) fun (a : Nat) => AV.bool (Nat.testBit y.snd a)] g)) (fun _ => by kernel_rfl) (?_)⟩
      refine (wp_loop (by kernel_rfl) (fun (z : Nat × Bool) => ⟨[(2, encI l), (3, ref 0 0), (7, sl 1 0 (List.length l.l) (List.length l.l) true 1), (9, .bool z.2)], [.cells false 1 (nth [encPacks x]), .cells false (l.l.length * 1) (setCells z.1)], g⟩) (fun (z : Nat × Bool) => ((∀ b, y.2.testBit b = true → z.1.testBit b = true) ∧ (∀ b, z.1.testBit b = true → (neededN x gl.l p).testBit b = true) ∧ (z.2 = false → ∀ i, i < x.l.length → z.1.testBit i = true → ∀ r ∈ (relOf x p i).needs.l, z.1.testBit r.pack.toNat = true))) (fun (z : Nat × Bool) => (room z.1 * 2 + if z.2 = true then 1 else 0)) ((y.2, true) : Nat × Bool) (to_fr ⟨(Le.refl _), ⟨(Le.refl _), ⟨(Le.refl _), ⟨(Le.refl _), trivial⟩⟩⟩⟩ rfl rfl) ?_ (fun z hi => ?_))
      · exact ⟨fun b hb => hb, h3, fun h => by cases h⟩
      · obtain ⟨h4, h5, h6⟩ := hi
        refine vcQ [] (lkL [(7, [2, 3, 7, 29]), (8, [2, 3, 7, 9]), (9, [2, 3, 7, 9, 10])]) (fun _ => []) (fun (Q : AEx → St R.σ → Prop) => (z.snd = true → Wp Try.prog R 86 0 Rd.top (bodyOf Try.prog 52) [1, 1, 1, 0, 1, 0, 0, 1, 0, 1, 1, 0] (contQ Try.prog R 86 0 Rd.top (bodyOf Try.prog 52) Q [Kont.blk 4, Kont.blk 3]) (St.mk [(2, encI l), (3, ref 0 0), (7, sl 1 0 (List.length l.l) (List.length l.l) true 1), (9, AV.bool false), (10, int i64 0)] [cells false 1 (nth [encPacks x]), cells false (List.length l.l * 1) fun (a : Nat) => AV.bool (Nat.testBit z.fst a)] g)) ∧ (z.snd = false → Q (AEx.exit 2) (St.mk [(2, encI l), (3, ref 0 0), (7, sl 1 0 (List.length l.l) (List.length l.l) true 1), (29, AV.bool z.snd)] [cells false 1 (nth [encPacks x]), cells false (List.length l.l * 1) fun (a : Nat) => AV.bool (Nat.testBit z.fst a)] g))) (fun _ => by kernel_rfl) ⟨fun c1 => ?_, fun c1 => ?_⟩
        · have hz : z.2 = true := c1
          refine (wp_loop (by kernel_rfl) (fun (u : Nat × Nat × Bool) => ⟨[(2, encI l), (3, ref 0 0), (7, sl 1 0 (List.length l.l) (List.length l.l) true 1), (9, .bool u.2.2), (10, .int .i64 (u.1 : Int))], [.cells false 1 (nth [encPacks x]), .cells false (l.l.length * 1) (setCells u.2.1)], g⟩) (fun (u : Nat × Nat × Bool) => (u.1 ≤ l.l.length ∧ Inv z.1 (neededN x gl.l p) u.2.1 u.2.2 (∀ i, i < u.1 → z.1.testBit i = true → ∀ r ∈ (relOf x p i).needs.l, z.1.testBit r.pack.toNat = true))) (fun (u : Nat × Nat × Bool) => (l.l.length - u.1)) ((0, z.1, false) : Nat × Nat × Bool) (to_fr ⟨(Le.refl _), ⟨(Le.refl _), ⟨(Le.refl _), ⟨(Le.refl _), ⟨(Le.of_eq (by kernel_rfl)), trivial⟩⟩⟩⟩⟩ rfl rfl) ?_ (fun u hi => ?_))
          · exact ⟨Nat.zero_le _, fun b hb => hb, h5, fun _ => ⟨rfl, fun i hi => absurd hi (Nat.not_lt_zero _)⟩, fun h => by cases h⟩
          · obtain ⟨k1, k2⟩ := hi
            have hpu := hp u.1
            have hiu := hin u.1
            have hrel : u.1 < x.l.length → ¬ l.l.getD u.1 0 < 0 → relOf x p u.1 = (x.l.getD u.1 default).l.getD (l.l.getD u.1 0).toNat default := by
              intro h h'
              unfold relOf
              rw [hpu h, if_neg (by omega)]
            refine vcQ [] (lkL [(10, [2, 3, 7, 9, 10, 33]), (12, [2, 3, 7, 9, 10, 47]), (13, [2, 3, 7, 9, 10, 11]), (14, [2, 3, 7, 9, 10, 11, 12]), (11, [2, 3, 7, 9, 10])]) (fun _ => []) (fun (Q : AEx → St R.σ → Prop) => (decide ((↑u.fst : Int) < (↑(List.length l.l) : Int)) = true → (0 ≤ (↑u.fst : Int) ∧ (↑u.fst : Int) < (↑(List.length l.l) : Int)) ∧ 1 ≤ 1 ∧ ((!decide (List.getD l.l u.fst 0 < 0)) = true → 0 ≤ (↑u.fst : Int) ∧ (↑u.fst : Int) < (↑(List.length l.l) : Int)) ∧ ((!decide (List.getD l.l u.fst 0 < 0)) = true → u.fst + 1 ≤ List.length l.l * 1) ∧ ((bif decide (List.getD l.l u.fst 0 < 0) then true else !Nat.testBit u.snd.fst u.fst) = true → (-9223372036854775808 ≤ (↑u.fst : Int) + 1 ∧ (↑u.fst : Int) + 1 ≤ 9223372036854775807) ∧ Q AEx.normal (St.mk [(2, encI l), (3, ref 0 0), (7, sl 1 0 (List.length l.l) (List.length l.l) true 1), (9, AV.bool u.snd.snd), (10, int i64 ((↑u.fst : Int) + 1))] [cells false 1 (nth [encPacks x]), cells false (List.length l.l * 1) fun (a : Nat) => AV.bool (Nat.testBit u.snd.fst a)] g)) ∧ ((bif decide (List.getD l.l u.fst 0 < 0) then true else !Nat.testBit u.snd.fst u.fst) = false → Tables.follows Try.prog.toTables Departure.mixedOrders = true ∧ 1 ≤ 1 ∧ (0 ≤ (↑u.fst : Int) ∧ (↑u.fst : Int) < (↑(List.length x.l) : Int)) ∧ 1 ≤ 1 ∧ (0 ≤ (↑u.fst : Int) ∧ (↑u.fst : Int) < (↑(List.length l.l) : Int)) ∧ 1 ≤ 1 ∧ (0 ≤ List.getD l.l u.fst 0 ∧ List.getD l.l u.fst 0 < (↑(List.length (List.getD x.l u.fst default).l) : Int)) ∧ 1 ≤ 2 ∧ Wp Try.prog R 86 0 Rd.top (bodyOf Try.prog 52) [1, 1, 1, 0, 1, 0, 0, 1, 0, 1, 1, 0, 0, 1, 0, 0, 1, 1, 1, 0] (contQ Try.prog R 86 0 Rd.top (bodyOf Try.prog 52) Q [Kont.blk 6, Kont.blk 5, Kont.seq [1, 1, 1, 0, 1, 0, 0, 1, 0, 1, 1, 0, 0, 1, 1]]) (St.mk [(2, encI l), (3, ref 0 0), (7, sl 1 0 (List.length l.l) (List.length l.l) true 1), (9, AV.bool u.snd.snd), (10, int i64 (↑u.fst : Int)), (11, encR (List.getD (List.getD x.l u.fst default).l (Int.toNat (List.getD l.l u.fst 0)) default).needs), (12, int i64 0)] [cells false 1 (nth [encPacks x]), cells false (List.length l.l * 1) fun (a : Nat) => AV.bool (Nat.testBit u.snd.fst a)] g))) ∧ (decide ((↑u.fst : Int) < (↑(List.length l.l) : Int)) = false → Q (AEx.exit 4) (St.mk [(2, encI l), (3, ref 0 0), (7, sl 1 0 (List.length l.l) (List.length l.l) true 1), (9, AV.bool u.snd.snd), (10, int i64 (↑u.fst : Int)), (33, AV.bool (decide ((↑u.fst : Int) < (↑(List.length l.l) : Int))))] [cells false 1 (nth [encPacks x]), cells false (List.length l.l * 1) fun (a : Nat) => AV.bool (Nat.testBit u.snd.fst a)] g))) (fun _ => by kernel_rfl) ⟨fun c1 => have c1 : (↑u.fst : Int) < (↑(List.length l.l) : Int) := (of_decide_eq_true c1); ⟨(by omega), ⟨(by omega), ⟨(by omega), ⟨(by omega), ⟨fun c2 => have c2 : List.getD l.l u.fst 0 < 0 ∨ Nat.testBit u.snd.fst u.fst = false := ((cO_t c2).imp (fun h => (of_decide_eq_true h)) (fun h => ((Bool.not_eq_true' _).mp h))); ⟨(by omega), ?_⟩, fun c2 => have c2 : ¬List.getD l.l u.fst 0 < 0 ∧ Nat.testBit u.snd.fst u.fst = true := ⟨(of_decide_eq_false (cO_f c2).1), ((Bool.not_eq_false' _).mp (cO_f c2).2)⟩; ⟨(by kernel_rfl), ⟨(by omega), ⟨(by omega), ⟨(by omega), ⟨(by omega), ⟨(by omega), ⟨(by omega), ⟨(by omega), ?_⟩⟩⟩⟩⟩⟩⟩⟩⟩⟩⟩⟩⟩, fun c1 => have c1 : ¬(↑u.fst : Int) < (↑(List.length l.l) : Int) := (of_decide_eq_false c1); ?_⟩
            · refine (next_round (u.1 + 1, u.2.1, u.2.2) (to_fr ⟨(Le.refl _), ⟨(Le.refl _), ⟨(Le.refl _), ⟨(Le.refl _), ⟨(Le.of_eq (by kernel_rfl)), trivial⟩⟩⟩⟩⟩ rfl rfl) ?_ ?_)
              · refine ⟨by show u.1 + 1 ≤ _; omega, k2.1, k2.2.1, fun hc => ?_, k2.2.2.2⟩
                obtain ⟨m1, m2⟩ := k2.2.2.1 hc
                refine ⟨m1, fun i hi hb => ?_⟩
                have hi : i < u.1 + 1 := hi
                rcases Nat.lt_or_ge i u.1 with h | h
                · exact m2 i h hb
                · have e : i = u.1 := by omega
                  subst e
                  rcases c2 with h | h
                  · have := hpu (by omega)
                    have := hiu (by omega)
                    have e : p u.1 = -1 := by omega
                    unfold relOf
                    rw [if_pos e]
                    intro r hr
                    cases hr
                  · rw [m1, hb] at h; cases h
              · show l.l.length - (u.1 + 1) < _
                omega
            · have hrel := hrel (by omega) c2.1
              rw [← hrel]
              have hn := hl u.1
              have hNu := hN2 u.1 (k2.2.1 _ c2.2)
              have hwu := hw u.1 (by omega)
              refine (wp_loop (by kernel_rfl) (fun (v : Nat × Nat × Bool) => ⟨[(2, encI l), (3, ref 0 0), (7, sl 1 0 (List.length l.l) (List.length l.l) true 1), (9, .bool v.2.2), (10, int i64 (↑u.fst : Int)), (11, encR (relOf x p u.fst).needs), (12, .int .i64 (v.1 : Int))], [.cells false 1 (nth [encPacks x]), .cells false (l.l.length * 1) (setCells v.2.1)], g⟩) (fun (v : Nat × Nat × Bool) => (v.1 ≤ (relOf x p u.1).needs.l.length ∧ Inv z.1 (neededN x gl.l p) v.2.1 v.2.2 ((∀ i, i < u.1 → z.1.testBit i = true → ∀ r ∈ (relOf x p i).needs.l, z.1.testBit r.pack.toNat = true) ∧ ∀ j, j < v.1 → z.1.testBit ((relOf x p u.1).needs.l.getD j default).pack.toNat = true))) (fun (v : Nat × Nat × Bool) => ((relOf x p u.1).needs.l.length - v.1)) ((0, u.2.1, u.2.2) : Nat × Nat × Bool) (to_fr ⟨(Le.refl _), ⟨(Le.refl _), ⟨(Le.refl _), ⟨(Le.refl _), ⟨(Le.refl _), ⟨(Le.refl _), ⟨(Le.of_eq (by kernel_rfl)), trivial⟩⟩⟩⟩⟩⟩⟩ rfl rfl) ?_ (fun v hi => ?_))
              · refine ⟨Nat.zero_le _, k2.1, k2.2.1, fun hc => ?_, k2.2.2.2⟩
                obtain ⟨m1, m2⟩ := k2.2.2.1 hc
                exact ⟨m1, m2, fun j hj => absurd hj (Nat.not_lt_zero _)⟩
              · obtain ⟨n1, n2⟩ := hi
                have hj : v.1 < (relOf x p u.1).needs.l.length → 0 ≤ ((relOf x p u.1).needs.l.getD v.1 default).pack ∧ ((relOf x p u.1).needs.l.getD v.1 default).pack < x.l.length := fun hj => hwu _ (getD_mem _ _ hj)
                refine vcQ [] (lkL [(15, [2, 3, 7, 9, 10, 11, 12, 63]), (17, [2, 3, 7, 9, 10, 11, 12]), (18, [2, 3, 7, 9, 10, 11, 12]), (16, [2, 3, 7, 9, 10, 11, 12])]) (fun _ => []) (fun (Q : AEx → St R.σ → Prop) => (decide ((↑v.fst : Int) < (↑(List.length (relOf x p u.fst).needs.l) : Int)) = true → ((!v.snd.snd) = true → 0 ≤ (↑v.fst : Int) ∧ (↑v.fst : Int) < (↑(List.length (relOf x p u.fst).needs.l) : Int)) ∧ ((!v.snd.snd) = true → 1 ≤ 3) ∧ ((!v.snd.snd) = true → 0 ≤ (List.getD (relOf x p u.fst).needs.l v.fst default).pack ∧ (List.getD (relOf x p u.fst).needs.l v.fst default).pack < (↑(List.length l.l) : Int)) ∧ ((!v.snd.snd) = true → Int.toNat (List.getD (relOf x p u.fst).needs.l v.fst default).pack + 1 ≤ List.length l.l * 1) ∧ (0 ≤ (↑v.fst : Int) ∧ (↑v.fst : Int) < (↑(List.length (relOf x p u.fst).needs.l) : Int)) ∧ 1 ≤ 3 ∧ (0 ≤ (List.getD (relOf x p u.fst).needs.l v.fst default).pack ∧ (List.getD (relOf x p u.fst).needs.l v.fst default).pack < (↑(List.length l.l) : Int)) ∧ Int.toNat (List.getD (relOf x p u.fst).needs.l v.fst default).pack + 1 ≤ List.length l.l * 1 ∧ (-9223372036854775808 ≤ (↑v.fst : Int) + 1 ∧ (↑v.fst : Int) + 1 ≤ 9223372036854775807) ∧ Q AEx.normal (St.mk [(2, encI l), (3, ref 0 0), (7, sl 1 0 (List.length l.l) (List.length l.l) true 1), (9, AV.bool (bif v.snd.snd then true else !Nat.testBit v.snd.fst (Int.toNat (List.getD (relOf x p u.fst).needs.l v.fst default).pack))), (10, int i64 (↑u.fst : Int)), (11, encR (relOf x p u.fst).needs), (12, int i64 ((↑v.fst : Int) + 1))] [cells false 1 (nth [encPacks x]), cells false (List.length l.l * 1) (over (fun (a : Nat) => AV.bool (Nat.testBit v.snd.fst a)) (Int.toNat (List.getD (relOf x p u.fst).needs.l v.fst default).pack) 1 fun (x : Nat) => AV.bool true)] g)) ∧ (decide ((↑v.fst : Int) < (↑(List.length (relOf x p u.fst).needs.l) : Int)) = false → Q (AEx.exit 6) (St.mk [(2, encI l), (3, ref 0 0), (7, sl 1 0 (List.length l.l) (List.length l.l) true 1), (9, AV.bool v.snd.snd), (10, int i64 (↑u.fst : Int)), (11, encR (relOf x p u.fst).needs), (12, int i64 (↑v.fst : Int)), (63, AV.bool (decide ((↑v.fst : Int) < (↑(List.length (relOf x p u.fst).needs.l) : Int))))] [cells false 1 (nth [encPacks x]), cells false (List.length l.l * 1) fun (a : Nat) => AV.bool (Nat.testBit v.snd.fst a)] g))) (fun _ => by kernel_rfl) ⟨fun c1 => have c1 : (↑v.fst : Int) < (↑(List.length (relOf x p u.fst).needs.l) : Int) := (of_decide_eq_true c1); ⟨(by omega), ⟨(by omega), ⟨(by omega), ⟨(by omega), ⟨(by omega), ⟨(by omega), ⟨(by omega), ⟨(by omega), ⟨(by omega), ?_⟩⟩⟩⟩⟩⟩⟩⟩⟩, fun c1 => have c1 : ¬(↑v.fst : Int) < (↑(List.length (relOf x p u.fst).needs.l) : Int) := (of_decide_eq_false c1); ?_⟩
                · refine (next_round (v.1 + 1, v.2.1 ||| 2 ^ ((relOf x p u.1).needs.l.getD v.1 default).pack.toNat, v.2.2 || !v.2.1.testBit ((relOf x p u.1).needs.l.getD v.1 default).pack.toNat) (to_le ⟨(Le.refl _), ⟨(Le.refl _), ⟨(Le.refl _), ⟨(Le.of_eq (by kernel_rfl)), ⟨(Le.refl _), ⟨(Le.refl _), ⟨(Le.of_eq (by kernel_rfl)), trivial⟩⟩⟩⟩⟩⟩⟩ ⟨LeO.rflc, ⟨?_, trivial⟩⟩ rfl) ?_ ?_)
                  · exact LeO.cells (fun j hj => over_set _ _ j)
                  · refine ⟨by show v.1 + 1 ≤ _; omega, ?_⟩
                    have h := n2.step (i := ((relOf x p u.1).needs.l.getD v.1 default).pack.toNat) (by omega) (hNu _ (getD_mem _ _ (by omega)))
                    refine ⟨h.1, h.2.1, fun hc => ?_, h.2.2.2⟩
                    obtain ⟨m1, ⟨m2, m3⟩, m4⟩ := h.2.2.1 hc
                    refine ⟨m1, m2, fun j hj => ?_⟩
                    have hj : j < v.1 + 1 := hj
                    rcases Nat.lt_or_ge j v.1 with h | h
                    · exact m3 j h
                    · have e : j = v.1 := by omega
                      subst e
                      exact m4
                  · show (relOf x p u.1).needs.l.length - (v.1 + 1) < _
                    omega
                · refine ⟨_, To.refl _, vcQ [] (lkL [(11, [2, 3, 7, 9, 10])]) (fun _ => []) (fun (Q : AEx → St R.σ → Prop) => (-9223372036854775808 ≤ (↑u.fst : Int) + 1 ∧ (↑u.fst : Int) + 1 ≤ 9223372036854775807) ∧ Q AEx.normal (St.mk [(2, encI l), (3, ref 0 0), (7, sl 1 0 (List.length l.l) (List.length l.l) true 1), (9, AV.bool v.snd.snd), (10, int i64 ((↑u.fst : Int) + 1))] [cells false 1 (nth [encPacks x]), cells false (List.length l.l * 1) fun (a : Nat) => AV.bool (Nat.testBit v.snd.fst a)] g)) (fun _ => by kernel_rfl) ⟨(by omega), ?_⟩⟩
                  refine (next_round (u.1 + 1, v.2.1, v.2.2) (to_fr ⟨(Le.refl _), ⟨(Le.refl _), ⟨(Le.refl _), ⟨(Le.refl _), ⟨(Le.of_eq (by kernel_rfl)), trivial⟩⟩⟩⟩⟩ rfl rfl) ?_ ?_)
                  · refine ⟨by show u.1 + 1 ≤ _; omega, n2.1, n2.2.1, fun hc => ?_, n2.2.2.2⟩
                    obtain ⟨m1, m2, m3⟩ := n2.2.2.1 hc
                    refine ⟨m1, fun i hi hb r hr => ?_⟩
                    have hi : i < u.1 + 1 := hi
                    rcases Nat.lt_or_ge i u.1 with h | h
                    · exact m2 i h hb r hr
                    · have e : i = u.1 := by omega
                      subst e
                      obtain ⟨j, hj, rfl⟩ := List.getElem_of_mem hr
                      have := m3 j (by omega)
                      simpa [List.getD, hj] using this
                  · show l.l.length - (u.1 + 1) < _
                    omega
            · refine ⟨_, To.refl _, (next_round (u.2.1, u.2.2) (to_fr ⟨(Le.refl _), ⟨(Le.refl _), ⟨(Le.refl _), ⟨(Le.refl _), trivial⟩⟩⟩⟩ rfl rfl) ?_ ?_)⟩
              · refine ⟨fun b hb => k2.1 b (h4 b hb), k2.2.1, fun hc i hi hb r hr => ?_⟩
                obtain ⟨m1, m2⟩ := k2.2.2.1 hc
                have hb : u.2.1.testBit i = true := hb
                show u.2.1.testBit _ = true
                rw [m1] at hb ⊢
                exact m2 i (by omega) hb r hr
              · show room u.2.1 * 2 + (if u.2.2 = true then 1 else 0) < _
                rw [if_pos hz]
                cases hc : u.2.2 with
                | true => have := k2.2.2.2 hc; simp; omega
                | false => rw [(k2.2.2.1 hc).1]; simp
        · have e : z.1 = neededN x gl.l p := by
            refine Nat.eq_of_testBit_eq fun b => ?_
            cases eb : (neededN x gl.l p).testBit b with
            | false =>
              cases ez : z.1.testBit b with
              | false => rfl
              | true => rw [h5 b ez] at eb; cases eb
            | true =>
              refine (needed_least (T := fun b => z.1.testBit b = true ∧ b < x.l.length) (fun r hr => ⟨h4 _ (hG r hr), by have := hgl r hr; omega⟩) (fun i hi r hr => ⟨h6 c1 i hi.2 hi.1 r hr, by have := hw i hi.2 r hr; omega⟩) b eb).1
          rw [e]
          refine ⟨_, To.refl _, vcQ [] (lkL [(19, [6])]) (fun _ => []) (fun (Q : AEx → St R.σ → Prop) => Q AEx.ret (St.mk [(6, sl 1 0 (List.length l.l) (List.length l.l) true 1)] [cells false 1 (nth [encPacks x]), cells false (List.length l.l * 1) fun (a : Nat) => AV.bool (Nat.testBit (neededN x gl.l p) a)] g)) (fun _ => by kernel_rfl) (?_)⟩
          refine (retQ_le (retQ_same' _ _ rfl trivial rfl rfl rfl) (Le.refl _))
theorem c_rneeded (R : Res) (x : Ix) (gl : KL Rng) (l : KL Int) (g : R.σ) (hs : small x) (h8 : x.l.length ≤ 8) (hll : l.l.length = x.l.length) (hin : inP x (planOf l.l x.l.length)) (hw : wfN x (planOf l.l x.l.length)) (hl : smallN x (planOf l.l x.l.length)) (hg : gl.l.length < 1000000) (hgl : ∀ r ∈ gl.l, 0 ≤ r.pack ∧ r.pack < x.l.length) :
    Does Try.prog R 52 [encIx x, encR gl, encI l] [] g (.ret (.sl 1 0 l.l.length l.l.length true 1)) [.dead, .cells false (l.l.length * 1) (setCells (neededN x gl.l (planOf l.l x.l.length)))] g :=
  does_le (rneeded_all R x gl l (planOf l.l x.l.length) g hs h8 hll (fun _ hi => if_pos hi) hin hw hl hg hgl) ⟨LeO.dead _, LeO.rflc, trivial⟩
end Go.Avm.Pack
