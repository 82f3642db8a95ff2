/- Part 2 of the proof: lemmas. -/
import Derived.Test.YthaoambmnjfdlaaDoorM1
namespace Go.Avm
open Go Go.WideShapes Go.ChangeShapes
def belowAll (ev : Operand → AV) : List Operand → Prop
 | [] => True
 | x :: r => Below 0 (ev x) ∧ belowAll ev r
theorem belowAll_mem {ev : Operand → AV} : ∀ {l : List Operand}, belowAll ev l → ∀ x ∈ l, Below 0 (ev x)
 | [], _, x, hx => by cases hx
 | y :: r, h, x, hx => by
   rcases List.mem_cons.1 hx with rfl | hx
   ·exact h.1
   ·exact belowAll_mem h.2 x hx
def litShape : Option Out → Option (Nat × Nat)
 | some ⟨.sl 0 0 n m true es, [.cells false N _], [], _⟩ => bif Nat.beq n m && Nat.beq N (n * es) then some (n, es) else none
 | _ => none
def litGet : Option Out → Nat → AV
 | some ⟨_, [.cells _ _ get], _, _⟩ => get
 | _ => fun _ => .any
theorem opOk_litB {P : Program} {R : Res} {o : Oper} {ev : Operand → AV} {hp : List AObj} {g : R.σ} {n es : Nat} {x : AV} {k : Fz} {g' : Nat → Nat → AV} (h : litShape (runEff (tyOf P) [] ev .none o.op) = some (n, es)) (hops : belowAll ev o.op.operands.toList)
  (hx : x = .fz k es n g') (hk : leK .exa k n = true) (hg : ∀ i, i < n → ∀ j, j < es → litGet (runEff (tyOf P) [] ev .none o.op) (i * es + j) = g' i j) (hb : ∀ i, i < n → ∀ j, j < es → Below 0 (g' i j)) : OpOk P R o ev hp g x hp g := by
 obtain ⟨out, ho⟩ : ∃ out, out = runEff (tyOf P) [] ev .none o.op := ⟨_, rfl⟩
 rw [← ho] at h hg
 unfold litShape at h
 split at h
 ·rename_i n' m es' N get tag
  cases hb1 : (Nat.beq n' m && Nat.beq N (n' * es')) with
  | false => rw [hb1] at h; cases h
  | true =>
    rw [hb1] at h
    simp only [cond_true, Option.some.injEq, Prod.mk.injEq] at h
    obtain ⟨rfl, rfl⟩ := h
    simp only [Bool.and_eq_true, Nat.beq_eq] at hb1
    obtain ⟨rfl, rfl⟩ := hb1
    have hg' : ∀ i, i < n' → ∀ j, j < es' → get (i * es' + j) = g' i j := hg
    refine opOk_lit ho.symm (Nat.le_refl _) (fun j hj => ?_) (fun y hy => belowAll_mem hops y (by simpa using hy)) (by rw [hx]; exact leK_ok hk (fun i j hi hj => by rw [← hg' i hi j hj, Nat.zero_add]))
    have hes : 0 < es' := by
     rcases Nat.eq_zero_or_pos es' with h0 | h0
     ·rw [h0] at hj; simp at hj
     ·exact h0
    have h1 : j / es' < n' := Nat.div_lt_of_lt_mul (by rw [Nat.mul_comm]; exact hj)
    have h2 : j % es' < es' := Nat.mod_lt _ hes
    have := hg' _ h1 _ h2
    rw [Nat.mul_comm, Nat.div_add_mod] at this
    rw [this]
    exact hb _ h1 _ h2
 ·cases h
def memOf (W : World) : Mem := fun b => W.heap[b]?
theorem fmCell_memOf {W : World} {b j : Nat} {x : Value} (h : W.cell? ⟨b, j, none⟩ = some x) : fmCell (memOf W) b j = some x := by
 unfold World.cell? at h
 unfold fmCell memOf
 split at h
 ·rename_i c e f hb
  rw [hb]
  simpa using h
 ·cases h
def CellsR (W : World) (n : Nat) (get : Nat → AV) (cs : List Value) : Prop :=
 cs.length = n ∧ ∀ j, j < n → ∃ x, cs[j]? = some x ∧ x.oneCell' = true ∧ Den (memOf W) [] (get j) x
def Rea (P : Program) (t n : Nat) {α : Type} (Q : α → Prop) (enc : α → Nat → AV) : Prop :=
 ∀ (H : Type) (en : TypeId × Value → H) (W : World) (fuel : Nat) (cs : List Value) (x : DataW H × List MemPlace),
   DataW.trod en P W 0 (fun _ => true) true fuel t cs = some x → ∃ a, Q a ∧ CellsR W n (enc a) cs
section
variable {P : Program} {t : Nat}
theorem Rea.map {α β : Type} {n : Nat} {Q : α → Prop} {enc : α → Nat → AV} {Q' : β → Prop} {enc' : β → Nat → AV} (h : Rea P t n Q enc) (f : α → β) (hq : ∀ a, Q a → Q' (f a)) (he : ∀ a j, j < n → enc a j = enc' (f a) j) : Rea P t n Q' enc' := by
 intro H en W fuel cs x hx
 obtain ⟨a, h1, h2, h3⟩ := h H en W fuel cs x hx
 exact ⟨f a, hq a h1, h2, fun j hj => by rw [← he a j hj]; exact h3 j hj⟩
theorem cellsR_one {W : World} {v : Value} {g : Nat → AV} (h1 : v.oneCell' = true) (h2 : Den (memOf W) [] (g 0) v) : CellsR W 1 g [v] :=
 ⟨rfl, fun j hj => by
  have : j = 0 := by omega
  subst this
  exact ⟨v, rfl, h1, h2⟩⟩
theorem rd_int {k : IntKind} (ht : P.underlying t = some (.int k)) : Rea P t 1 (fun n : Int => (Lit.int k n).wf = true) (fun n _ => .int k n) := by
 intro H en W fuel cs x hx
 obtain ⟨n, rfl, _, hw⟩ := DataW.trod_int ht hx
 exact ⟨n, hw, cellsR_one rfl rfl⟩
def ReaF (P : Program) (fs : List Field) (o n : Nat) {α : Type} (Q : α → Prop) (enc : α → Nat → AV) : Prop :=
 ∀ (H : Type) (en : TypeId × Value → H) (W : World) (fuel : Nat) (cs : List Value),
   (∀ f ∈ fs, ∃ x : DataW H × List MemPlace, DataW.trod en P W 0 (fun _ => true) true fuel f.type ((cs.drop f.offset).take (P.cellsOf f.type)) = some x) →
   ∃ a, Q a ∧ ∀ j, j < n → ∃ x, cs[o + j]? = some x ∧ x.oneCell' = true ∧ Den (memOf W) [] (enc a j) x
theorem rdF_nil {o : Nat} : ReaF P [] o 0 (fun _ : Unit => True) (fun _ _ => .any) :=
 fun _ _ _ _ _ _ => ⟨(), trivial, fun j hj => absurd hj (by omega)⟩
theorem rdF_cons {α β : Type} {f : Field} {fs : List Field} {o m n : Nat} {Q : α → Prop} {enc : α → Nat → AV} {Q' : β → Prop} {enc' : β → Nat → AV}
  (ho : f.offset = o) (hm : P.cellsOf f.type = m) (h : Rea P f.type m Q enc) (h' : ReaF P fs (o + m) n Q' enc') :
  ReaF P (f :: fs) o (m + n) (fun x : α × β => Q x.1 ∧ Q' x.2) (fun x j => if j < m then enc x.1 j else enc' x.2 (j - m)) := by
 intro H en W fuel cs hx
 obtain ⟨x, hx1⟩ := hx f (by simp)
 obtain ⟨a, q1, l1, c1⟩ := h H en W fuel _ x hx1
 obtain ⟨b, q2, c2⟩ := h' H en W fuel cs (fun g hg => hx g (by simp [hg]))
 refine ⟨(a, b), ⟨q1, q2⟩, fun j hj => ?_⟩
 by_cases hjm : j < m
 ·obtain ⟨y, y1, y2, y3⟩ := c1 j hjm
  refine ⟨y, ?_, y2, by show Den _ _ (if j < m then _ else _) _; rw [if_pos hjm]; exact y3⟩
  rw [hm, ho, List.getElem?_take, if_pos hjm, List.getElem?_drop] at y1
  exact y1
 ·obtain ⟨y, y1, y2, y3⟩ := c2 (j - m) (by omega)
  exact ⟨y, by rw [← y1]; congr 1; omega, y2, by show Den _ _ (if j < m then _ else _) _; rw [if_neg hjm]; exact y3⟩
theorem rd_struct {α : Type} {fs : Array Field} {n : Nat} {Q : α → Prop} {enc : α → Nat → AV} (ht : P.underlying t = some (.struct fs)) (hn : P.cellsOf t = n) (h : ReaF P fs.toList 0 n Q enc) : Rea P t n Q enc := by
 intro H en W fuel cs x hx
 obtain ⟨xs, m, rfl, _, hl, hxs, hf⟩ := DataW.trod_struct ht hx
 obtain ⟨a, q, c⟩ := h H en W m cs (fun f hfm => by
  obtain ⟨i, hi, hif⟩ := List.getElem_of_mem hfm
  have h1 : i < fs.size := by simpa using hi
  have h2 : fs[i]? = some f := by simp [h1, ← hif]
  have := hf i f h2
  rw [List.getElem?_eq_getElem (by omega)] at this
  exact ⟨_, this⟩)
 exact ⟨a, q, by rw [hl, hn], fun j hj => by simpa using c j hj⟩
def QL {α : Type} (Q : α → Prop) (x : Fz × List α) : Prop := (∀ a ∈ x.2, Q a) ∧ x.2.length ≤ maxLen
theorem mapM_cells {W : World} {a : Addr} : ∀ {l : List Nat} {cs : List Value}, l.mapM (fun i => W.cell? (a.add i)) = some cs → ∀ i, i < l.length → W.cell? (a.add (l.getD i 0)) = cs[i]?
 | [], _, _, i, hi => by simp at hi
 | x :: r, cs, h, i, hi => by
   simp only [List.mapM_cons, Option.bind_eq_bind, Option.bind_eq_some_iff, Option.pure_def, Option.some.injEq] at h
   obtain ⟨y, h1, ys, h2, rfl⟩ := h
   cases i with
   | zero => simpa using h1
   | succ i => simpa using mapM_cells h2 i (by simpa using hi)
theorem cells_at {W : World} {base : Nat} {a : Addr} {n : Nat} {cs : List Value} (h : W.cells? base a n = some cs) {j : Nat} (hj : j < n) : W.cell? (a.add j) = cs[j]? := by
 unfold World.cells? at h
 split at h
 ·have := mapM_cells h j (by simpa using hj)
  simpa [List.getD, hj] using this
 ·cases h
theorem add_add (a : Addr) (i j : Nat) : (a.add i).add j = a.add (i + j) := by
 unfold Addr.add
 by_cases hi : i = 0
 ·subst hi; simp
 ·by_cases hj : j = 0
  ·subst hj; simp
  ·rw [if_neg hi, if_neg hj, if_neg (by omega), Nat.add_assoc]
theorem rd_slice {α : Type} [Inhabited α] {e n : Nat} {Q : α → Prop} {enc : α → Nat → AV} (ht : P.underlying t = some (.slice e)) (hc : P.cellsOf e = n) (hn : 0 < n) (h : Rea P e n Q enc) :
  Rea P t 1 (QL Q) (fun x _ => .fz x.1 n x.2.length (fun i => enc (x.2.getD i default))) := by
 intro H en W fuel cs x hx
 rcases DataW.trod_slice ht hx with ⟨rfl, _⟩ | ⟨a, len, cap, elems, rest, m, rfl, rfl, _, _, hlc, hcm, hel, hat, _, _⟩
 ·refine ⟨(.nil, []), ⟨fun a ha => (by cases ha), Nat.zero_le _⟩, cellsR_one rfl ?_⟩
  exact ⟨fun _ => ⟨rfl, none, 0, rfl, rfl, rfl⟩, fun h => (by cases h)⟩
 ·by_cases h0 : len = 0
  ·subst h0
   refine ⟨(.may, []), ⟨fun a ha => (by cases ha), Nat.zero_le _⟩, cellsR_one rfl ?_⟩
   exact ⟨fun _ => ⟨rfl, some a, cap, rfl, fun h => (by cases h)⟩, fun h => (by cases h)⟩
  ·have key : ∀ i, ∃ y : α, i < len → Q y ∧ ∀ j, j < n → ∃ x, W.cell? (a.add (i * n + j)) = some x ∧ x.oneCell' = true ∧ Den (memOf W) [] (enc y j) x := by
    intro i
    by_cases hi : i < len
    ·have h1 := hat i hi
     rw [List.getElem?_eq_getElem (by omega), hc] at h1
     obtain ⟨ci, e1, e2⟩ := Option.bind_eq_some_iff.1 h1
     obtain ⟨y, q, l1, c1⟩ := h H en W m ci _ e2
     refine ⟨y, fun _ => ⟨q, fun j hj => ?_⟩⟩
     obtain ⟨x, x1, x2, x3⟩ := c1 j hj
     have := cells_at e1 hj
     rw [x1] at this
     refine ⟨x, ?_, x2, x3⟩
     rw [← this, add_add]
    ·exact ⟨default, fun h => absurd h hi⟩
   let f : Nat → α := fun i => Classical.choose (key i)
   have hf : ∀ i, i < len → Q (f i) ∧ ∀ j, j < n → ∃ x, W.cell? (a.add (i * n + j)) = some x ∧ x.oneCell' = true ∧ Den (memOf W) [] (enc (f i) j) x := fun i => Classical.choose_spec (key i)
   have hll : ((List.range len).map f).length = len := by simp
   have hget : ∀ i, i < len → ((List.range len).map f).getD i default = f i := fun i hi => by simp [List.getD, hi]
   obtain ⟨b, off, sp⟩ := a
   have hsp : sp = none := by
    obtain ⟨x, x1, _⟩ := (hf 0 (by omega)).2 0 hn
    simpa [Addr.add] using World.cell?_spot x1
   subst hsp
   refine ⟨(.opn, (List.range len).map f), ⟨fun y hy => ?_, by simp only [hll]; omega⟩, cellsR_one rfl ?_⟩
   ·obtain ⟨i, hi, rfl⟩ := List.mem_map.1 hy
    exact (hf i (by simpa using hi)).1
   ·refine ⟨fun h => (by cases h), fun _ => ⟨b, off, cap, by rw [hll], by rw [hll]; exact hlc, fun h => (by rcases h with h | h <;> cases h), fun i j hi hj => ?_⟩⟩
    rw [hll] at hi
    obtain ⟨x, x1, x2, x3⟩ := (hf i hi).2 j hj
    refine ⟨x, fmCell_memOf (by rw [← x1, add_plain, Nat.add_assoc]), x2, ?_⟩
    show Den _ _ (enc (((List.range len).map f).getD i default) j) x
    rw [hget i hi]
    exact x3

def Arg (P : Program) (t : TypeId) {α : Type} (Q : α → Prop) (A : α → AV) : Prop :=
 ∀ (H : Type) (en : TypeId × Value → H) (W : World) (base : Nat) (v : Value) (d : DataW H) (ps : List MemPlace),
   Value.okWide P W .any base t v → DataW.Trod en P W 0 (fun _ => true) true t v d ps → ∃ a, Q a ∧ Den (memOf W) [] (A a) v
theorem cellsR_head {W : World} {g : Nat → AV} {v : Value} (h : CellsR W 1 g [v]) : Den (memOf W) [] (g 0) v := by
 obtain ⟨x, h1, _, h2⟩ := h.2 0 (by omega)
 simp at h1
 subst h1
 exact h2
theorem arg_slice {α : Type} {e : TypeId} {Q : α → Prop} {enc : α → Nat → AV} (ht : P.underlying t = some (.slice e)) (h : Rea P t 1 Q enc) : Arg P t Q (fun a => enc a 0) := by
 intro H en W base v d ps hok ⟨fuel, hx⟩
 obtain ⟨a, l, c, rfl⟩ := okWide_slice ht hok
 obtain ⟨y, q, hc⟩ := h H en W fuel _ _ hx
 exact ⟨y, q, cellsR_head hc⟩
theorem arg_struct {α : Type} {fs : Array Field} {n : Nat} {Q : α → Prop} {enc : α → Nat → AV} (ht : P.underlying t = some (.struct fs)) (h : Rea P t n Q enc) : Arg P t Q (fun a => .agg n (enc a)) := by
 intro H en W base v d ps hok ⟨fuel, hx⟩
 obtain ⟨cs, rfl, hcs⟩ := okWide_struct ht hok
 obtain ⟨y, q, hl, hc⟩ := h H en W fuel _ _ hx
 have hl' : cs.size = n := by simpa [Value.cells] using hl
 refine ⟨y, q, cs, rfl, hl', fun j hj => ?_⟩
 obtain ⟨x, h1, h2, h3⟩ := hc j hj
 have : cs.getD j undef = x := by
  have h1 : cs[j]? = some x := by simpa [Value.cells] using h1
  simp [Array.getD_eq_getD_getElem?, h1]
 rw [this]
 exact ⟨h2, h3⟩
def ArgsOk (P : Program) (ts : List TypeId) (X : List AV → Prop) : Prop :=
 ∀ (H : Type) (en : TypeId × Value → H) (W : World) (base : Nat) (vs : List Value) (ds : List (DataW H)) (ps : List MemPlace),
   (∀ (j : Nat) (t : TypeId) (v : Value), ts[j]? = some t → vs[j]? = some v → Value.okWide P W .any base t v) → DataW.TrodAll en P W 0 (fun _ => true) true ts vs ds ps →
   ∃ avs : List AV, X avs ∧ vs.length = avs.length ∧ ∀ i, i < avs.length → Den (memOf W) [] (nth avs i) (vs.getD i undef)
theorem args_nil : ArgsOk P [] (fun l => l = []) := by
 intro H en W base vs ds ps _ h
 obtain ⟨rfl, rfl, rfl⟩ := trodAll_nil h
 exact ⟨[], rfl, rfl, fun i hi => absurd hi (by simp)⟩
theorem args_cons {α : Type} {ts : List TypeId} {Q : α → Prop} {A : α → AV} {X : List AV → Prop} (h : Arg P t Q A) (h' : ArgsOk P ts X) : ArgsOk P (t :: ts) (fun l => ∃ a, Q a ∧ ∃ r, X r ∧ l = A a :: r) := by
 intro H en W base vs ds ps hok hT
 obtain ⟨v, vs', d, ds', p, q, rfl, rfl, rfl, h1, h2⟩ := trodAll_cons hT
 obtain ⟨a, qa, da⟩ := h H en W base v d p (hok 0 t v rfl rfl) h1
 obtain ⟨r, xr, lr, dr⟩ := h' H en W base vs' ds' q (fun j u w hu hw => hok (j + 1) u w hu hw) h2
 refine ⟨A a :: r, ⟨a, qa, r, xr, rfl⟩, by simp [lr], fun i hi => ?_⟩
 cases i with
 | zero => exact da
 | succ i => exact dr i (by simpa using hi)
end

section
variable {H : Type} {enc : TypeId × Value → H} {P : Program}
theorem post_of_below {f : Func} {s : ChangeSpec} {apart fresh handsOn again : Bool} {W W' : World} {args : Array Value} {v : Value} {ds gs : List (DataW H)} {before pa pv : List MemPlace}
  (hW : DataW.Whole enc P f.params.toList s.vars apart W args.toList ds gs before)
  (hres : ∀ (b : Nat) (sp : Nat → Bool) (hd : Bool), DataW.TrodAll enc P W' b sp hd f.resultTypes.toList (v.resultList f.resultTypes.size) (s.fn H (ds ++ gs)).results [])
  (hargs : ∀ sp : Nat → Bool, (∀ p ∈ before, sp p.block = true) → DataW.TrodAll enc P W' 0 sp true f.params.toList args.toList (s.fn H (ds ++ gs)).args pa)
  (hvars : ∀ sp : Nat → Bool, (∀ p ∈ before, sp p.block = true) → DataW.TrodVars enc P W' sp s.vars (s.fn H (ds ++ gs)).vars pv)
  (hps : before = pa ++ pv) (hb : RowKit.Below W.heap.size W W')
  (hok : ∀ (j : Nat) (t : TypeId) (r : Value), f.resultTypes[j]? = some t → (v.resultList f.resultTypes.size)[j]? = some r → Value.okWide P W' .any 0 t r) :
  s.post enc P f apart fresh handsOn again W args v W' := by
 have hlt : ∀ p ∈ before, p.block < W.heap.size := fun p hp => hW.lt p hp
 have hold : ∀ p ∈ before, (fun b => decide (b < W.heap.size)) p.block = true := fun p hp => by simpa using hlt p hp
 refine ⟨ds, gs, before, [], pa, pv, hW, hres _ _ _, hargs _ hold, hvars _ hold, World.keptBut_mono (fun p hp => ⟨hp, ?_⟩) (hb.frame (· ∈ before)), fun _ => ?_⟩
 ·rw [hps, List.mem_append] at hp
  exact Or.inr hp
 ·obtain ⟨_, _, _, _, _, hz, hn⟩ := hW
  refine ⟨hok, _, _, ([] ++ pa) ++ pv, ⟨[] ++ pa, pv, trodAll_append (hargs _ (fun _ _ => rfl)) (hres _ _ _), hvars _ (fun _ _ => rfl), rfl, ?_, ?_⟩, ?_⟩
  ·intro b off hp
   have hin : MemPlace.cell b off ∈ before := by rw [hps]; simpa using hp
   rw [hb.frozen (hlt _ hin)]
   exact hz b off hin
  ·intro ha
   have := hn ha
   rw [hps] at this
   simpa using this
  ·intro p hp _
   rw [hps]
   simpa using hp
theorem same_below {W W' : World} (hb : RowKit.Below W.heap.size W W') {p : MemPlace} (hp : p.block < W.heap.size) : W.sameAt W' p := by
 cases p with
 | cell b off => exact hb.cell (p := ⟨b, off, none⟩) hp
 | map b => exact hb.block b hp
theorem trodAll_stays {W W' : World} {sp : Nat → Bool} (hl : laidOutB P = true) : ∀ {ts : List TypeId} {vs : List Value} {ds : List (DataW H)} {ps : List MemPlace},
  (∀ t ∈ ts, P.readableRec t = true ∧ t < P.types.size) → DataW.TrodAll enc P W 0 (fun _ => true) true ts vs ds ps → (∀ p ∈ ps, W.sameAt W' p) → (∀ p ∈ ps, sp p.block = true) → DataW.TrodAll enc P W' 0 sp true ts vs ds ps
 | [], _, _, _, _, h, _, _ => by
   obtain ⟨rfl, rfl, rfl⟩ := trodAll_nil h
   exact rfl
 | t :: ts, _, _, _, hr, h, h1, h2 => by
   obtain ⟨v, vs, d, ds, p, q, rfl, rfl, rfl, ⟨fuel, hx⟩, hT⟩ := trodAll_cons h
   obtain ⟨r1, r2⟩ := hr t (by simp)
   refine ⟨p, q, ⟨fuel, ?_⟩, trodAll_stays hl (fun u hu => hr u (by simp [hu])) hT (fun x hx => h1 x (by simp [hx])) (fun x hx => h2 x (by simp [hx])), rfl⟩
   exact DataW.trod_stays (kids_book hl r1) (book_sized r1) (fun h => by cases h) ⟨r2, book_self t⟩ hx (fun x hx => h1 x (by simp [hx])) (fun x hx => h2 x (by simp [hx]))
end
end Go.Avm
namespace Go.Avm
open Go
end Go.Avm
namespace Go.Avm
open Go Go.WideShapes Go.ChangeShapes
def Tabs (gs : List (Nat × List Int)) (FM : Mem) : Prop := ∀ b zs, (b, zs) ∈ gs → ∀ i, i < zs.length → fmCell FM b i = some (.int .u8 (zs.getD i 0))
theorem tabs_mono {gs : List (Nat × List Int)} {FM FM' : Mem} (h : ∀ b o, FM b = some o → FM' b = some o) (ht : Tabs gs FM) : Tabs gs FM' := fun b zs hm i hi => fmCell_mono h (ht b zs hm i hi)
def Res.tab (gs : List (Nat × List Int)) : Res := ⟨Unit, fun _ _ => False, fun _ FM _ => Tabs gs FM, fun h k => tabs_mono k.fm h⟩
instance (gs : List (Nat × List Int)) : Tab (Tabs gs) (Res.tab gs) := ⟨fun h => h⟩
def isGlob (b : Nat) : Operand → Bool
 | .global c => Nat.beq b c
 | _ => false
def evTab (b : Nat) (zs : List Int) (ev : Operand → AV) (x : Operand) : AV := bif isGlob b x then .fp zs.length (fun j => .int .u8 (zs.getD j 0)) else ev x
theorem opOk_tab {P : Program} {R : Res} {gs : List (Nat × List Int)} [hT : Tab (Tabs gs) R] {o : Oper} {ev : Operand → AV} {hp : List AObj} {g : R.σ} {x : AV} (b : Nat) (zs : List Int) (hb : (b, zs) ∈ gs) (hg : ev (.global b) = .val (.pointer (some ⟨b, 0, none⟩))) {out : Out}
  (h : runPure (tyOf P) hp (evTab b zs ev) .none o.op = some out) (hob : AllP out.ob) (hx : Le out.v x) : OpOk P R o ev hp g x hp g := by
 refine ⟨fun FM ρ w evc okw hop => ?_⟩
 classical
 have htab := hT.h okw.j
 let ev' : Operand → AV := fun y => if y ∈ o.op.operands then evTab b zs ev y else .any
 have hev' : ∀ y, Den FM ρ (ev' y) (evc y) := by
  intro y
  by_cases hy : y ∈ o.op.operands
  ·simp only [ev', hy, if_true]
   have h1 := hop y hy
   unfold evTab
   cases hi : isGlob b y with
   | false => exact h1
   | true =>
     have e : y = .global b := by
      cases y with
      | global c => rw [Nat.eq_of_beq_eq_true hi]
      | _ => cases hi
     rw [e, hg] at h1
     rw [e]
     obtain ⟨h1, _⟩ := h1
     refine ⟨b, 0, h1, fun j hj => ⟨.int .u8 (zs.getD j 0), ?_, rfl, rfl⟩⟩
     rw [Nat.zero_add]
     exact htab b zs hb j hj
  ·simp only [ev', hy, if_false]; trivial
 have hsame : ∀ y ∈ o.op.operands, evTab b zs ev y = ev' y := fun y hy => by simp only [ev', hy, if_true]
 rw [runPure_ev hsame] at h
 obtain ⟨⟨v, h1, h2⟩, h3⟩ := runPure_sound okw.rel hev' h hob
 exact ⟨_, w, FM, ρ, v, h1, rfl, hx _ _ _ h2, okw, ⟨Ext.refl _ _ _ _, fun _ h => .inl h, Sub.refl _⟩⟩
theorem laid_tail {P : Program} {W : World} {x : String × DataW Unit} {r : List (String × DataW Unit)} (h : laidMet P (x :: r) W) : laidMet P r W := by
 obtain ⟨ps, ⟨g, t, cs, fuel, p, q, _, _, _, _, hr, rfl⟩, hn, hall⟩ := h
 exact ⟨q, hr, (List.nodup_append.1 hn).2.1, fun b off hb => hall b off (List.mem_append_right _ hb)⟩
theorem tabs_nil {FM : Mem} : Tabs [] FM := fun b zs hm => (by cases hm)
theorem tabs_cons {P : Program} {W : World} {name : String} {zs : List Int} {rest : List (String × DataW Unit)} {g : Nat} {t e : TypeId} {n : Nat} {gs : List (Nat × List Int)}
  (hg : P.globalNamed name = some g) (hty : (P.globals[g]?).map (·.type) = some t) (ht : P.underlying t = some (.array n e)) (he : P.underlying e = some (.int .u8)) (hce : P.cellsOf e = 1) (hct : P.cellsOf t = n)
  (h : laidMet P ((name, Lib.tabData .u8 zs) :: rest) W) (hr : laidMet P rest W → Tabs gs (memOf W)) : Tabs ((g, zs) :: gs) (memOf W) := by
 intro b ys hm i hi
 rcases List.mem_cons.1 hm with e1 | hm
 ·cases e1
  exact fmCell_memOf ((Lib.tabIs_of_head hg hty ht he hce hct h).cell hg i hi)
 ·exact hr (laid_tail h) b ys hm i hi
section
variable {H : Type} {enc : TypeId × Value → H} {P : Program}
theorem law_laid {a : Assume} {C : Checked} {os : Os} {f : FuncId} {fn : Func} {s : ChangeSpec} {F : Stop.Interp} {conds : List PathCond} {apart fresh handsOn again : Bool} {tb : TypeId} {X : List AV → Prop} {laid : List (String × DataW Unit)} {gs : List (Nat × List Int)}
  (own : ownKnob C.prog.godebug = none) (started : os.Started) (noInit : C.prog.inits.idxOf? f = none) (hfn : C.prog.funcs[f]? = some fn)
  (witness : ∃ (w : World) (tape : Tape) (i : Input), w.os = os ∧ (w.forCall tape i).Shaped C.prog ∧ i.vars = [] ∧ Input.okWide C.prog (w.forCall tape i) .any w.heap.size f i ∧
   (OpenSpec.ofChange s).preRow enc C.prog fn conds apart laid (w.forCall tape i).memory i.args ∧ a.holds C.prog (lone (Frame.enter C.prog f i.args .normal) [] (w.forCall tape i)))
  (hvars : s.vars = []) (hspec : ∀ ds : List (DataW H), ds.length = fn.params.size → s.fn H ds = { results := [.lit (.bool true)], args := ds })
  (hl : laidOutB C.prog = true) (hr : ∀ t ∈ fn.params.toList, C.prog.readableRec t = true ∧ t < C.prog.types.size)
  (hres : fn.resultTypes = #[tb]) (hb : C.prog.underlying tb = some .bool) (htab : ∀ W, laidMetH C.prog laid W → Tabs gs (memOf W))
  (hargs : ArgsOk C.prog fn.params.toList X) (hdoes : ∀ avs, X avs → Does C.prog (Res.tab gs) f avs [] () (.ret (.bool true)) [] ()) :
  ReturnsInHanded a C os f .any ((OpenSpec.ofChange s).preRow enc C.prog fn conds apart laid) (((OpenSpec.ofChange s).at F).post enc C.prog fn apart fresh handsOn again) := by
 refine returnsInHanded_of_row own started noInit hfn witness (fun W base args ds gs' before hval hW _ _ _ hL _ _ => ?_)
 have hW : DataW.Whole enc C.prog fn.params.toList s.vars apart W args.toList ds gs' before := hW
 have hW' := hW
 obtain ⟨p, q, hA, hV, rfl, hz, hn⟩ := hW
 rw [hvars] at hV
 obtain ⟨rfl, rfl⟩ := trodVars_none hV
 obtain ⟨avs, hX, hlen, hden⟩ := hargs H enc W base args.toList ds p (fun j t v h1 h2 => hval j t v (by simpa using h1) (by simpa using h2)) hA
 have hlt : ∀ x ∈ p, x.block < W.heap.size := fun x hx => hW'.lt x (by simp [hx])
 have hdl : ds.length = fn.params.size := by
  have : ∀ {ts : List TypeId} {vs : List Value} {ds : List (DataW H)} {ps : List MemPlace}, DataW.TrodAll enc C.prog W 0 (fun _ => true) true ts vs ds ps → ds.length = ts.length := by
   intro ts
   induction ts with
   | nil =>
     intro vs ds ps h
     obtain ⟨_, rfl, _⟩ := trodAll_nil h
     rfl
   | cons t ts ih =>
     intro vs ds ps h
     obtain ⟨v, vs, d, ds, p, q, rfl, rfl, rfl, _, hT⟩ := trodAll_cons h
     simp [ih hT]
  have := this hA
  simpa using this
 have hok : Ok (Res.tab gs) [] () (memOf W) [] W := ⟨⟨fun b o h => h, rfl, fun i p h => (by simp at h), fun i j p q h => (by simp at h)⟩, htab W hL, fun b h => absurd h (by simp [Res.tab])⟩
 refine ((hdoes avs hX).h (memOf W) [] W args hok ⟨by simpa using hlen, fun i hi => by
  have := hden i hi
  simpa [List.getD, Array.getD_eq_getD_getElem?] using this⟩).mono fun e W' ⟨FM', ρ', ⟨v, he, hv⟩, _, hg⟩ => ⟨v, he, ?_⟩
 have hv : v = .bool true := hv
 subst hv
 have hbel : RowKit.Below W.heap.size W W' := ⟨hg.ext.os, hg.ext.tape, hg.ext.output, hg.ext.size, fun k hk => hg.ext.keep k hk (fun ⟨p, hp, _⟩ => by cases hp) (fun h => h)⟩
 have hsp : s.fn H (ds ++ []) = { results := [.lit (.bool true)], args := ds } := by rw [List.append_nil]; exact hspec ds hdl
 show s.post enc C.prog fn apart fresh handsOn again W args (.bool true) W'
 refine post_of_below (pa := p) (pv := []) hW' (fun b sp hd => ?_) (fun sp hs => ?_) (fun sp _ => ?_) rfl hbel (fun j t r h1 h2 => ?_)
 ·rw [hsp, hres]
  exact ⟨[], [], ⟨1, by simp [DataW.trod, Value.cells, hb]⟩, rfl, rfl⟩
 ·rw [hsp]
  exact trodAll_stays hl hr hA (fun x hx => same_below hbel (hlt x hx)) (fun x hx => hs x (by simp [hx]))
 ·rw [hsp, hvars]
  exact rfl
 ·rw [hres] at h1 h2
  have hj : j = 0 := by
   cases j with
   | zero => rfl
   | succ j => simp at h1
  subst hj
  simp at h1
  subst h1
  simp [Value.resultList] at h2
  subst h2
  simp [Value.okWide, hb, Cell.okWide, Cell.ok]
end
end Go.Avm
namespace Go.Avm
open Go
structure SeqO (P : Program) (f : FuncId) (o : AObj) (N : Nat) (items : Nat → List AV) (T : Mem → Prop := fun _ => True) : Prop where
 h : ∀ (R : Res) [Tab T R] (u : Value) (G : Nat → R.σ) (c : Nat → Bool),
   (∀ k, k < N → (∀ j, j < k → c j = true) → ∀ hpo, VDoes P R u (items k) hpo (G k) (.ret (.bool (c k))) hpo (G (k + 1))) →
   ∃ hp', hp'.length = 1 ∧ Does P R f [.val u, .ref 0 0] [o] (G 0) (.ret (.tup 0 (nth []))) hp' (G (stopF c N 0))
def belowO (k : Nat) : AObj → Prop
 | .cells _ n get => ∀ j, j < n → Below k (get j)
 | _ => True
def allBO (k : Nat) : List AObj → Prop
 | [] => True
 | o :: r => belowO k o ∧ allBO k r
theorem allBO_get {k : Nat} : ∀ {l : List AObj}, allBO k l → ∀ i, belowO k (getO l i)
 | [], _, i => by cases i <;> trivial
 | _ :: _, h, 0 => h.1
 | _ :: r, h, i + 1 => allBO_get (l := r) h.2 i
theorem objRel_cut {FM : Mem} {ρ : Plc} {p : Nat × Nat × Nat} {w : World} {o : AObj} {k : Nat} (h : ObjRel FM ρ p w o) (hb : belowO k o) : ObjRel FM (ρ.take k) p w o := by
 cases o with
 | dead => trivial
 | map es => exact h
 | cells f n get =>
   intro hn
   obtain ⟨cs, e, a1, a2, a3, a4, a5⟩ := h hn
   exact ⟨cs, e, a1, a2, a3, fun j hj => let ⟨x, b1, b2, b3⟩ := a4 j hj; ⟨x, b1, b2, den_below _ b3 (hb j hj)⟩, a5⟩
theorem objRel_sub {FM : Mem} {ρ ρ' : Plc} {p : Nat × Nat × Nat} {w : World} {o : AObj} (hs : Sub ρ ρ') (h : ObjRel FM ρ p w o) : ObjRel FM ρ' p w o := by
 cases o with
 | dead => trivial
 | map es => exact h
 | cells f n get =>
   intro hn
   obtain ⟨cs, e, a1, a2, a3, a4, a5⟩ := h hn
   exact ⟨cs, e, a1, a2, a3, fun j hj => let ⟨x, b1, b2, b3⟩ := a4 j hj; ⟨x, b1, b2, Den.mono (fun _ _ h => h) _ hs b3⟩, a5⟩
def slotsOf : List Nat → List (Nat × AV) → List (Nat × AV)
 | [], _ => []
 | t :: ts, fr => (t, lk fr t) :: slotsOf ts fr
def allIn (ts : List Nat) (p : Nat → Prop) : Prop := match ts with
 | [] => True
 | t :: r => p t ∧ allIn r p
theorem allIn_mem {p : Nat → Prop} : ∀ {ts : List Nat}, allIn ts p → ∀ t, t ∈ ts → p t
 | [], _, t, h => by simp at h
 | a :: r, h, t, ht => by
   rcases List.mem_cons.1 ht with rfl | ht
   ·exact h.1
   ·exact allIn_mem (ts := r) h.2 t ht
theorem slotsOf_den {FM : Mem} {ρ ρ0 : Plc} {m : Nat} {fr : List (Nat × AV)} {v : Nat → Value} (h : ∀ t, Den FM ρ (lk fr t) (v t)) : ∀ {ts : List Nat}, (∀ t, t ∈ ts → Below m (lk fr t)) → ρ0 = ρ.take m → ∀ t, Den FM ρ0 (lk (slotsOf ts fr) t) (v t)
 | [], _, _, t => trivial
 | a :: r, hb, e, t => by
   show Den FM ρ0 (bif Nat.beq t a then lk fr a else lk (slotsOf r fr) t) (v t)
   cases hta : Nat.beq t a with
   | true =>
     have := Nat.eq_of_beq_eq_true hta
     subst this
     rw [e]
     exact den_below _ (h t) (hb t List.mem_cons_self)
   | false => exact slotsOf_den h (fun t ht => hb t (List.mem_cons_of_mem _ ht)) e t
section
variable {P : Program} {R : Res}
def RoundB (P : Program) (R : Res) (nt : Nat) (assign body : Code) (jmp : Option Code) (hp' : List AObj) (g' : R.σ) (s : St R.σ) : Prop :=
 ∀ l, wpA P R nt s.hp.length (.inr l) assign (fun e s1 => e = .normal ∧ wpA P R nt s1.hp.length (.inr l) body (RndQ R s.hp.length jmp hp' g') s1) s
theorem vdoes_yieldB {nt D L : Nat} {fn : FuncId} {tmps : Array Value} {ps : Array Tmp} {assign body : Code} {rec : LoopState → Option Code → Loop}
  (hrec : rec = fun st pe => { state := st, pending := pe, fn, tmps, params := ps, assign, body, defers := D }) {FM0 : Mem} {ρ : Plc} {fr : List (Nat × AV)} (hsz : tmps.size = nt) (hfr : ∀ t, Den FM0 ρ (lk fr t) (tmps.getD t undef)) (hne : D ≠ L)
  {items : List AV} (hlen : items.length = ps.toList.length) (hlt : allLt ps.toList nt = true) (hit : allB 0 items) {jmp : Option Code} {hp hp' : List AObj} {g g' : R.σ} (hl : hp'.length = hp.length)
  (hround : RoundB P R nt assign body jmp hp' g' ⟨setPs ps.toList items fr, hp, g⟩) (hpo : List AObj) :
  VDoes P (absorb (loopR R D L rec) FM0 ρ) (.func (.yield L) #[] #[]) items hpo ((g, .ready, none), hp) (.ret (.bool jmp.isNone)) hpo ((g', (if jmp.isNone then .ready else .done), jmp), hp') := by
 refine ⟨.inr ⟨L, rfl, fun FM ρ1 w vs ok hvs => ?_⟩⟩
 obtain ⟨okL, hmono⟩ := ok.j
 obtain ⟨jR, hD, hL, ⟨fD, fL⟩, bD, bL⟩ := okL.j
 have okR := ok_of_loopR okL
 have iD : ¬ InB ρ D := (okL.bd D (.inr (.inl rfl))).2
 have iL : ¬ InB ρ L := (okL.bd L (.inr (.inr rfl))).2
 have lD : D < w.heap.size := (Array.getElem?_eq_some_iff.1 hD).1
 have lL : L < w.heap.size := (Array.getElem?_eq_some_iff.1 hL).1
 have hvsz : vs.size = ps.size := by rw [hvs.1, hlen]; simp
 have hrun := run_yield (P := P) hL (args := vs) (by rw [hrec]; exact hvsz)
 rw [hrec] at hrun
 refine ⟨_, _, _, _, hrun, fun r n => roundIn_of_wpIn trivial ?_⟩
 have hzip : (ps.zip vs).foldl (fun tmps (x : Tmp × Value) => tmps.setIfInBounds x.1 x.2) tmps = (ps.toList.zip vs.toList).foldl (fun tmps (p : Nat × Value) => tmps.setIfInBounds p.1 p.2) tmps := by
  rw [← Array.foldl_toList, Array.toList_zip]
 have hset := setPs_ok (FM := FM) (ρ := ρ) ps.toList items vs.toList fr tmps hsz hlt hlen (by simpa using hvsz) (fun i hi => by
  have := hvs.2 i hi
  have h2 := denL_below (ρ' := ρ) hvs (fun i hi => allB_nth hit i hi)
  have h3 := h2.2 i hi
  rw [Array.getD_eq_getD_getElem?] at h3
  rw [List.getD_eq_getElem?_getD, Array.getElem?_toList]
  exact h3) (fun t => Den.mono hmono _ (Sub.refl _) (hfr t))
 let C : Cx R := ⟨g, FM, ρ, w, ⟨[], false⟩⟩
 have hsat : Sat R C nt ⟨setPs ps.toList items fr, hp, g⟩ FM ρ { tmps := (ps.zip vs).foldl (fun tmps (x : Tmp × Value) => tmps.setIfInBounds x.1 x.2) tmps, defers := [] } w := by
  refine ⟨okR, Goes.refl _ _ _ _ _, ?_, .start, fun t => ?_⟩
  ·show Array.size _ = nt
   rw [hzip]; exact hset.1
  ·show Den FM ρ _ (Array.getD _ _ _)
   rw [hzip]; exact hset.2 t
 have hC : C.ρ.length = hp.length := okR.rel.len
 refine wpIn_mono (hround L C ⟨hC, rfl⟩ n _ w ⟨FM, ρ, hsat⟩) (fun e a1 w1 hpost => ?_)
 have post : ∃ s1 FM1 ρ1, e = .normal ∧ (wpA P R nt s1.hp.length (.inr L) body (RndQ R hp.length jmp hp' g') s1) ∧ Sat R C nt s1 FM1 ρ1 a1 w1 := by
  cases e with
  | normal => obtain ⟨s, ⟨_, h1⟩, FM1, ρ1, h2⟩ := hpost; exact ⟨s, FM1, ρ1, rfl, h1, h2⟩
  | exit id => obtain ⟨s, ⟨h1, _⟩, _⟩ := hpost; cases h1
  | ret => obtain ⟨s, ⟨h1, _⟩, _⟩ := hpost; cases h1
  | panic ch => obtain ⟨s, x, v, FM1, ρ1, ⟨h1, _⟩, _⟩ := hpost; cases h1
  | goto l => exact hpost.elim
  | outgrown => exact hpost.elim
 obtain ⟨s1, FM1, ρ1', rfl, hbody, hs1⟩ := post
 have hin1 : ∀ b, b < w.heap.size → ¬ InB ρ b → ¬ InB ρ1' b := fun b h1 h2 h3 => by
  rcases hs1.goes.ext.blk b h3 with h | h
  ·exact h2 h
  ·have h : w.heap.size ≤ b := h
   omega
 have keep1 : ∀ b, b < w.heap.size → ¬ InB ρ b → ¬ R.B g b → w1.heap[b]? = w.heap[b]? := hs1.goes.ext.keep
 have nofm1 : ∀ b, b < w.heap.size → ¬ InB ρ b → ¬ R.B g b → FM b = none → FM1 b = none := fun b h1 h2 h3 h4 => by
  cases hx : FM1 b with
  | none => rfl
  | some o =>
    rcases hs1.goes.ext.grow b o hx with h | h | h | h
    ·have h : FM b = some o := h
     rw [h4] at h; cases h
    ·have h : w.heap.size ≤ b := h
     omega
    ·exact absurd h h2
    ·exact absurd h h3
 have nB1 : ∀ b, b < w.heap.size → ¬ R.B g b → ¬ R.B s1.g b := fun b h1 h3 hb => by
  rcases hs1.goes.bn b hb with h | h
  ·exact h3 h
  ·have h : w.heap.size ≤ b := h
   omega
 have hL1 : w1.heap[L]? = some (.loop (rec .ready none)) := (keep1 L lL iL bL).trans hL
 have hD1 : w1.heap[D]? = some (.deferred (some [])) := (keep1 D lD iD bD).trans hD
 have fL1 := nofm1 L lL iL bL fL
 have fD1 := nofm1 D lD iD bD fD
 have bL1 := nB1 L lL bL
 have bD1 := nB1 D lD bD
 have lL1 : L < w1.heap.size := (Array.getElem?_eq_some_iff.1 hL1).1
 have lD1 : D < w1.heap.size := (Array.getElem?_eq_some_iff.1 hD1).1
 refine ⟨_, run_beginRound hL1 (by rw [hrec]), ?_⟩
 have okb := ok_put (.loop { rec .ready none with state := .busy }) (hin1 L lL iL) bL1 fL1 hs1.ok
 let C2 : Cx R := ⟨s1.g, FM1, ρ1', w1.putObj L (.loop { rec .ready none with state := .busy }), ⟨[], false⟩⟩
 have hsat2 : Sat R C2 nt s1 FM1 ρ1' a1 (w1.putObj L (.loop { rec .ready none with state := .busy })) := by
  refine ⟨okb, Goes.refl _ _ _ _ _, hs1.size, ?_, hs1.fr⟩
  have e : a1.defers = [] := hs1.defs.none
  rw [e]; exact .start
 refine wpIn_mono (hbody C2 ⟨hs1.ok.rel.len, rfl⟩ n a1 _ ⟨FM1, ρ1', hsat2⟩) (fun e a3 w3 hp3 => ?_)
 have lL2 : L < (w1.putObj L (.loop { rec .ready none with state := .busy })).heap.size := by simpa using lL1
 have lD2 : D < (w1.putObj L (.loop { rec .ready none with state := .busy })).heap.size := by simpa using lD1
 -- the end of the round
 have fin : ∀ (s3 : St R.σ) (FM3 : Mem) (ρ3 : Plc), Sat R C2 nt s3 FM3 ρ3 a3 w3 → (∃ s', To R hp.length s3 s' ∧ s'.hp = hp' ∧ s'.g = g') → ∃ v w', (Instr.endRound L jmp).run P w3 = .ok v w' ∧
   Post (absorb (loopR R D L rec) FM0 ρ) ((g, .ready, none), hp) FM ρ1 w (.ret (.bool jmp.isNone)) hpo ((g', (if jmp.isNone then .ready else .done), jmp), hp') (.returned v) w' := by
  rintro s3 FM3 ρ3 hs3 ⟨s', hto, rfl, rfl⟩
  have hL3 : w3.heap[L]? = some (.loop { rec .ready none with state := .busy }) := (hs3.goes.ext.keep L lL2 (hin1 L lL iL) bL1).trans (World.putObj_heap_same lL1)
  have hD3 : w3.heap[D]? = some (.deferred (some [])) := (hs3.goes.ext.keep D lD2 (hin1 D lD iD) bD1).trans ((World.putObj_heap_other hne).trans hD1)
  refine ⟨_, _, run_endRound jmp hL3, ?_⟩
  obtain ⟨FM4, ρ4, a1', a2', a3', a4', a5', a6', a7'⟩ := hto ρ FM3 ρ3 w3 _ hC (fun i p h => hs3.goes.sub i p (hs1.goes.sub i p h)) hs3.ok hs3.fr
  obtain rfl := same_plc okR a1' hl a3'
  have nofm4 : ∀ b, b < w1.heap.size → ¬ InB ρ1' b → ¬ R.B s1.g b → FM1 b = none → FM4 b = none := fun b h1 h2 h3 h4 => by
   have h2' : ¬ InB ρ3 b := fun hi => by
    rcases hs3.goes.ext.blk b hi with h | h
    ·exact h2 h
    ·have h : (w1.putObj L (.loop { rec .ready none with state := .busy })).heap.size ≤ b := h
     simp at h; omega
   cases hx : FM4 b with
   | none => rfl
   | some o =>
     rcases a5' b o hx with h | h
     ·rcases hs3.goes.ext.grow b o h with h | h | h | h
      ·have h : FM1 b = some o := h
       rw [h4] at h; cases h
      ·have h : (w1.putObj L (.loop { rec .ready none with state := .busy })).heap.size ≤ b := h
       simp at h; omega
      ·exact absurd h h2
      ·exact absurd h h3
     ·exact absurd h h2'
  have nB3 : ∀ b, b < w1.heap.size → ¬ R.B s1.g b → ¬ R.B s'.g b := fun b h1 h3 hb => by
   rw [a7'] at hb
   rcases hs3.goes.bn b hb with h | h
   ·exact h3 h
   ·have h : (w1.putObj L (.loop { rec .ready none with state := .busy })).heap.size ≤ b := h
    simp at h; omega
  have fL4 := nofm4 L lL1 (hin1 L lL iL) bL1 fL1
  have fD4 := nofm4 D lD1 (hin1 D lD iD) bD1 fD1
  have bL4 := nB3 L lL1 bL1
  have bD4 := nB3 D lD1 bD1
  have ok4 := ok_put (.loop (rec (if jmp.isNone then .ready else .done) jmp)) iL bL4 fL4 a1'
  have erec : ({ ({ rec .ready none with state := .busy } : Loop) with state := if jmp.isNone then .ready else .done, pending := jmp } : Loop) = rec (if jmp.isNone then .ready else .done) jmp := by rw [hrec]
  rw [erec]
  -- how it has gone on
  have hsize : w.heap.size ≤ w3.heap.size := Nat.le_trans hs1.goes.ext.size (by have := hs3.goes.ext.size; simpa [C2] using this)
  have hgrow : ∀ b o, FM4 b = some o → FM b = some o ∨ w.heap.size ≤ b ∨ InB ρ4 b ∨ R.B g b := fun b o hb => by
   have h3 : FM3 b = some o ∨ w.heap.size ≤ b ∨ InB ρ4 b := by
    rcases a5' b o hb with h | h
    ·exact .inl h
    ·rcases hs3.goes.ext.blk b h with h | h
     ·rcases hs1.goes.ext.blk b h with h | h
      ·exact .inr (.inr h)
      ·exact .inr (.inl h)
     ·have h : (w1.putObj L (.loop { rec .ready none with state := .busy })).heap.size ≤ b := h
      have := hs1.goes.ext.size
      simp at h
      exact .inr (.inl (Nat.le_trans this h))
   rcases h3 with h3 | h3 | h3
   ·rcases hs3.goes.ext.grow b o h3 with h | h | h | h
    ·exact hs1.goes.ext.grow b o h
    ·have h : (w1.putObj L (.loop { rec .ready none with state := .busy })).heap.size ≤ b := h
     have := hs1.goes.ext.size
     simp at h
     exact .inr (.inl (Nat.le_trans this h))
    ·rcases hs1.goes.ext.blk b h with h | h
     ·exact .inr (.inr (.inl h))
     ·exact .inr (.inl h)
    ·rcases hs1.goes.bn b h with h | h
     ·exact .inr (.inr (.inr h))
     ·exact .inr (.inl h)
   ·exact .inr (.inl h3)
   ·exact .inr (.inr (.inl h3))
  have hkeep : ∀ b, b < w.heap.size → ¬ InB ρ4 b → ¬ R.B g b → b ≠ L → (w3.putObj L (.loop (rec (if jmp.isNone then .ready else .done) jmp))).heap[b]? = w.heap[b]? := fun b h1 h2 h3 h4 => by
   rw [World.putObj_heap_other h4]
   have h1' : b < (w1.putObj L (.loop { rec .ready none with state := .busy })).heap.size := by
    simp; exact Nat.lt_of_lt_of_le h1 hs1.goes.ext.size
   refine (hs3.goes.ext.keep b h1' (hin1 b h1 h2) (nB1 b h1 h3)).trans ?_
   show (w1.putObj L _).heap[b]? = _
   rw [World.putObj_heap_other h4]
   exact hs1.goes.ext.keep b h1 h2 h3
  have hbn : ∀ b, R.B s'.g b → R.B g b ∨ w.heap.size ≤ b := fun b hb => by
   rw [a7'] at hb
   rcases hs3.goes.bn b hb with h | h
   ·exact hs1.goes.bn b h
   ·have h : (w1.putObj L (.loop { rec .ready none with state := .busy })).heap.size ≤ b := h
    have := hs1.goes.ext.size
    simp at h
    exact .inr (Nat.le_trans this h)
  have hfm : ∀ b o, FM b = some o → FM4 b = some o := fun b o hb => a4' b o (hs3.goes.ext.fm b o (hs1.goes.ext.fm b o hb))
  -- the iterator's objects
  have off : ∀ b, InB ρ1 b → b < w.heap.size ∧ ¬ R.B g b ∧ ¬ InB ρ4 b ∧ b ≠ L ∧ b ≠ D := fun b hb => by
   obtain ⟨p, hp1, hpb, hre⟩ := hb
   obtain ⟨i, hi⟩ := List.getElem?_of_mem hp1
   have hin : InB ρ1 b := ⟨p, hp1, hpb, hre⟩
   refine ⟨by rw [← hpb]; exact (ok.rel.obj i p hi).1 hre, fun hB => (ok.bd b (.inl (.inl hB))).2 hin, fun hI => (ok.bd b (.inr hI)).2 hin, fun e => (ok.bd b (.inl (.inr (.inr e)))).2 hin, fun e => (ok.bd b (.inl (.inr (.inl e)))).2 hin⟩
  have heap : ∀ b, InB ρ1 b → (w3.putObj L (.loop (rec (if jmp.isNone then .ready else .done) jmp))).heap[b]? = w.heap[b]? := fun b hb => let ⟨h1, h2, h3, h4, _⟩ := off b hb; hkeep b h1 h3 h2 h4
  have fmn : ∀ b, InB ρ1 b → FM b = none → FM4 b = none := fun b hb hn => by
   cases hx : FM4 b with
   | none => rfl
   | some o =>
     obtain ⟨h1, h2, h3, _⟩ := off b hb
     rcases hgrow b o hx with h | h | h | h
     ·rw [hn] at h; cases h
     ·omega
     ·exact absurd h h3
     ·exact absurd h h2
  refine ⟨FM4, ρ1, ⟨_, rfl, rfl⟩, ⟨⟨ok4.rel.fm, ok.rel.len, fun i p hi => ?_, ok.rel.inj⟩, ⟨⟨ok4.rel, ⟨ok4.j, (World.putObj_heap_other hne).trans hD3, World.putObj_heap_same (Array.getElem?_eq_some_iff.1 hL3).1, ⟨fD4, fL4⟩, bD4, bL4⟩, fun b hb => ?_⟩, fun b o hb => hfm b o (hmono b o hb)⟩, fun b hb => ?_⟩,
   ⟨⟨hfm, fun b o hb => ?_, fun b hb => .inl hb, fun b h1 h2 h3 => hkeep b h1 (fun hI => h3 (.inr hI)) (fun hB => h3 (.inl (.inl hB))) (fun e => h3 (.inl (.inr (.inr e)))), by simpa using hsize, ?_, ?_, ?_⟩, fun b hb => ?_, Sub.refl _⟩⟩
  ·obtain ⟨k1, k2⟩ := ok.rel.obj i p hi
   refine ⟨fun hre => by simpa using Nat.lt_of_lt_of_le (k1 hre) hsize, ?_⟩
   cases hx : getO hpo i with
   | dead => trivial
   | map es =>
     rw [hx] at k2
     have hin : InB ρ1 p.1 := ⟨p, mem_of_get hi, rfl, k2.1⟩
     exact objRel_map k2 hfm (heap _ hin) (fmn _ hin k2.2.1)
   | cells f n g =>
     intro hn
     have hin : InB ρ1 p.1 := ⟨p, mem_of_get hi, rfl, (ok.rel.real_cells hi hx hn).1⟩
     rw [hx] at k2
     obtain ⟨cs, e', b1, b2, b3, b4, b5, b6⟩ := k2 hn
     exact ⟨cs, e', by rw [heap _ hin]; exact b1, b2, b3, fun j hj => let ⟨x, c1, c2, c3⟩ := b4 j hj; ⟨x, c1, c2, Den.mono hfm _ (Sub.refl _) c3⟩, fun hf => hfm _ _ (b5 hf), fun hf => fmn _ hin (b6 hf)⟩
  ·rcases hb with hb | rfl | rfl
   ·exact ok4.bd b hb
   ·exact ⟨by simpa using Nat.lt_of_lt_of_le lD hsize, iD⟩
   ·exact ⟨by simpa using Nat.lt_of_lt_of_le lL hsize, iL⟩
  ·rcases hb with (hb | rfl | rfl) | hb
   ·rcases hbn b hb with h1 | h1
    ·exact ⟨(ok4.bd b hb).1, (ok.bd b (.inl (.inl h1))).2⟩
    ·exact ⟨(ok4.bd b hb).1, fun hI => by have := (off b hI).1; omega⟩
   ·exact ⟨by simpa using Nat.lt_of_lt_of_le lD hsize, fun hI => (off _ hI).2.2.2.2 rfl⟩
   ·exact ⟨by simpa using Nat.lt_of_lt_of_le lL hsize, fun hI => (off _ hI).2.2.2.1 rfl⟩
   ·exact ⟨by simpa using Nat.lt_of_lt_of_le (ok.bd b (.inr hb)).1 hsize, (ok.bd b (.inr hb)).2⟩
  ·rcases hgrow b o hb with h | h | h | h
   ·exact .inl h
   ·exact .inr (.inl h)
   ·exact .inr (.inr (.inr (.inr h)))
   ·exact .inr (.inr (.inr (.inl (.inl h))))
  ·exact hs3.goes.ext.os.trans hs1.goes.ext.os
  ·exact hs3.goes.ext.tape.trans hs1.goes.ext.tape
  ·exact hs3.goes.ext.output.trans hs1.goes.ext.output
  ·rcases hb with (hb | rfl | rfl) | hb
   ·rcases hbn b hb with h | h
    ·exact .inl (.inl (.inl h))
    ·exact .inr h
   ·exact .inl (.inl (.inr (.inl rfl)))
   ·exact .inl (.inl (.inr (.inr rfl)))
   ·exact .inl (.inr hb)
 cases e with
 | normal => obtain ⟨s3, ⟨rfl, h⟩, FM3, ρ3, h2⟩ := hp3; exact fin s3 FM3 ρ3 h2 h
 | ret => obtain ⟨s3, ⟨rfl, h⟩, FM3, ρ3, h2⟩ := hp3; exact fin s3 FM3 ρ3 h2 h
 | exit id => obtain ⟨s3, ⟨rfl, h⟩, FM3, ρ3, h2⟩ := hp3; exact fin s3 FM3 ρ3 h2 h
 | panic ch => obtain ⟨s3, x, v, FM3, ρ3, h, _⟩ := hp3; exact h.elim
 | goto l => exact hp3.elim
 | outgrown => exact hp3.elim
theorem wpA_range1 {nt k0 : Nat} {Q : AEx → St R.σ → Prop} {s : St R.σ} {t : Nat} {ps : Array Tmp} {assign body : Code} {f m : Nat} {fa fb : Nat → AV} {o : AObj} (hf : lk s.fr t = .fn f 0 fa 1 fb) (hfb : fb 0 = .ref m 0) (hpl : isPlain P f = true)
  {N : Nat} {items : Nat → List AV} {T : Mem → Prop} [Tab T R] (hseq : SeqO P f o N items T) (hlen : ∀ k, (items k).length = ps.toList.length) (hlt : allLt ps.toList nt = true) (hit : ∀ k, allB 0 (items k))
  (jmp : Nat → Option Code) (hj : ∀ k, jOk (jmp k) = true) (H : Nat → List AObj) (G : Nat → R.σ) (h0 : s.hp = H 0 ++ [o]) (hg0 : G 0 = s.g) (hl : ∀ k, (H k).length = m)
  (hlive : allLive (H 0 ++ [o])) (hBO : allBO m (H 0)) (hBo : allBO 0 [o]) (ts : List Nat) (hBf : allIn ts (fun t => Below m (lk s.fr t)))
  (hround : ∀ k, k < N → (∀ j, j < k → jmp j = none) → RoundB P R nt assign body (jmp k) (H (k + 1)) (G (k + 1)) ⟨setPs ps.toList (items k) (slotsOf ts s.fr), H k, G k⟩)
  (hdone : (∀ k, k < N → jmp k = none) → Q .normal ⟨s.fr, H N ++ [.dead], G N⟩)
  (hret : ∀ k, k < N → (∀ j, j < k → jmp j = none) → jmp k = some .ret → Q .ret ⟨s.fr, H (k + 1) ++ [.dead], G (k + 1)⟩)
  (hexit : ∀ k id, k < N → (∀ j, j < k → jmp j = none) → jmp k = some (.exit id) → Q (.exit id) ⟨s.fr, H (k + 1) ++ [.dead], G (k + 1)⟩) :
  wpA P R nt k0 .top (.rangeFunc (.tmp t) ps assign body) Q s := by
 intro C hC n a w ⟨FM, ρ, hs⟩
 refine wpIn_rangeFunc (fun fn hfn => ?_)
 obtain ⟨D, hD⟩ : ∃ D, D = w.heap.size := ⟨_, rfl⟩
 obtain ⟨L, hL⟩ : ∃ L, L = w.heap.size + 1 := ⟨_, rfl⟩
 have hne : D ≠ L := by omega
 obtain ⟨rec, hrec⟩ : ∃ rec : LoopState → Option Code → Loop, rec = fun st pe => { state := st, pending := pe, fn, tmps := a.tmps, params := ps, assign, body, defers := D } := ⟨_, rfl⟩
 obtain ⟨W1, hW1⟩ : ∃ W1, (w.alloc (.deferred (some []))).alloc (.loop (rec .ready none)) = W1 := ⟨_, rfl⟩
 have hL1 : W1.heap[L]? = some (.loop (rec .ready none)) := by
  rw [← hW1, hL]; have := World.alloc_heap_new (w.alloc (.deferred (some []))) (.loop (rec .ready none)); rwa [World.size_alloc] at this
 have hD1 : W1.heap[D]? = some (.deferred (some [])) := by
  rw [← hW1, hD]; exact (_root_.Go.RowKit.Below.heap_alloc _ _ _ (by simp)).trans (World.alloc_heap_new w _)
 have hsz1 : W1.heap.size = w.heap.size + 2 := by rw [← hW1]; simp
 obtain ⟨okA, goA⟩ := ok_other hs.ok (.deferred (some []))
 obtain ⟨ok1, goB⟩ := ok_other okA (.loop (rec .ready none))
 have go1 := goA.trans goB
 rw [hW1] at ok1 go1
 -- the iterator's object
 have hlen0 : s.hp.length = m + 1 := by rw [h0]; simp [hl]
 have hρl : ρ.length = m + 1 := by rw [hs.ok.rel.len, hlen0]
 obtain ⟨pb, hpb⟩ : ∃ pb, ρ[m]? = some pb := ⟨_, List.getElem?_eq_getElem (by omega)⟩
 obtain ⟨ρ0, hρ0⟩ : ∃ ρ0, ρ0 = ρ.take m := ⟨_, rfl⟩
 have hsub0 : Sub ρ0 ρ := fun i p hi => by
  rw [hρ0, List.getElem?_take] at hi
  split at hi
  ·exact hi
  ·cases hi
 have hlt0 : ∀ {i p}, ρ0[i]? = some p → i < m := fun {i p} hi => by
  rw [hρ0, List.getElem?_take] at hi
  split at hi
  ·assumption
  ·cases hi
 have hInB : ∀ b, InB ρ b ↔ InB ρ0 b ∨ InB [pb] b := fun b => by
  constructor
  ·rintro ⟨p, hp, hb, hre⟩
   obtain ⟨i, hi⟩ := List.getElem?_of_mem hp
   have : i < m + 1 := by rw [← hρl]; exact (List.getElem?_eq_some_iff.1 hi).1
   rcases Nat.lt_or_ge i m with h | h
   ·exact .inl ⟨p, List.mem_of_getElem? (i := i) (by rw [hρ0, List.getElem?_take, if_pos h]; exact hi), hb, hre⟩
   ·have : i = m := by omega
    subst this
    rw [hpb] at hi; cases hi
    exact .inr ⟨pb, by simp, hb, hre⟩
  ·rintro (⟨p, hp, hb, hre⟩ | ⟨p, hp, hb, hre⟩)
   ·obtain ⟨i, hi⟩ := List.getElem?_of_mem hp
    exact ⟨p, mem_of_get (hsub0 i p hi), hb, hre⟩
   ·have : p = pb := by simpa using hp
    subst this
    exact ⟨p, mem_of_get hpb, hb, hre⟩
 have hgo : ∀ i, i < m → getO s.hp i = getO (H 0) i := fun i hi => by rw [h0, getO_append_lt (by rw [hl]; exact hi)]
 have hgm : getO s.hp m = o := by rw [h0, getO_append_ge (by rw [hl]; exact Nat.le_refl _), hl, Nat.sub_self]; rfl
 have hlv : ∀ i, i < m + 1 → isLive (getO s.hp i) = true := fun i hi => by rw [h0]; exact allLive_get hlive i (by simp [hl]; omega)
 have rel0 : ∀ W, HRel FM ρ s.hp W → HRel FM ρ0 (H 0) W := fun W hr => by
  refine ⟨hr.fm, by rw [hρ0, List.length_take, hl, hρl]; omega, fun i p hi => ?_, fun i j p q hi hj _ _ e => hr.inj i j p q (hsub0 i p hi) (hsub0 j q hj) (hlv i (by have := hlt0 hi; omega)) (hlv j (by have := hlt0 hj; omega)) e⟩
  obtain ⟨k1, k2⟩ := hr.obj i p (hsub0 i p hi)
  rw [hgo i (hlt0 hi)] at k2
  refine ⟨k1, ?_⟩
  rw [hρ0]
  exact objRel_cut k2 (allBO_get hBO i)
 have relI : ∀ W, HRel FM ρ s.hp W → HRel FM [pb] [o] W := fun W hr => by
  refine ⟨hr.fm, rfl, fun i p hi => ?_, fun i j p q hi hj _ _ _ => ?_⟩
  ·have e : i = 0 := by
    have := (List.getElem?_eq_some_iff.1 hi).1
    simpa using this
   subst e
   have hi : pb = p := by simpa using hi
   subst hi
   obtain ⟨k1, k2⟩ := hr.obj m pb hpb
   rw [hgm] at k2
   refine ⟨k1, ?_⟩
   have := objRel_cut k2 (allBO_get hBo 0)
   exact objRel_sub (fun i p hi => by simp at hi) this
  ·have e1 := (List.getElem?_eq_some_iff.1 hi).1
   have e2 := (List.getElem?_eq_some_iff.1 hj).1
   simp at e1 e2
   omega
 have hdis : ∀ b, InB [pb] b → ¬ InB ρ0 b := fun b ⟨p, hp, hb, hre⟩ ⟨q, hq, hb', hre'⟩ => by
  have : p = pb := by simpa using hp
  subst this
  obtain ⟨i, hi⟩ := List.getElem?_of_mem hq
  have := hlt0 hi
  have := hs.ok.rel.inj i m q p (hsub0 i q hi) hpb (hlv i (by omega)) (hlv m (by omega)) (by rw [hb, hb'])
  omega
 -- the new blocks are nobody's
 have nIn : ∀ X, w.heap.size ≤ X → ¬ InB ρ X := fun X hX ⟨p, hp, hb, hre⟩ => by
  obtain ⟨i, hi⟩ := List.getElem?_of_mem hp
  have := (hs.ok.rel.obj i p hi).1 hre
  omega
 have nB : ∀ X, w.heap.size ≤ X → ¬ R.B s.g X := fun X hX hb => by have := (hs.ok.bd X hb).1; omega
 have nF : ∀ X, w.heap.size ≤ X → FM X = none := fun X hX => by
  cases hx : FM X with
  | none => rfl
  | some o => have := (Array.getElem?_eq_some_iff.1 (hs.ok.rel.fm X o hx)).1; omega
 -- the iterator's call
 have hev : Den FM ρ (.fn f 0 fa 1 fb) (a.eval (.tmp t)) := by rw [← hf]; exact hs.fr t
 obtain ⟨xs, ys, hu, hxs, hys, hda, hdb⟩ := hev
 have hfr0 : ∀ t, Den FM ρ0 (lk (slotsOf ts s.fr) t) (a.tmps.getD t undef) := slotsOf_den (fun t => hs.fr t) (fun t ht => allIn_mem hBf t ht) hρ0
 let u : Value := .func (.yield L) #[] #[]
 let R2 : Res := absorb (loopR R D L rec) FM ρ0
 let G2 : Nat → R2.σ := fun k => ((G k, stJ jmp k), H k)
 let c : Nat → Bool := fun k => (jmp k).isNone
 have hstJ : ∀ k, (∀ j, j < k → c j = true) → stJ jmp k = (.ready, none) := fun k hk => by
  cases k with
  | zero => rfl
  | succ k =>
    have : jmp k = none := by simpa [c] using hk k (by omega)
    simp [stJ, this]
 have hdoes := hseq.h R2 u G2 c (fun k hk hjk hpo => by
  have e := hstJ k hjk
  have := vdoes_yieldB (P := P) (R := R) (L := L) hrec hs.size hfr0 hne (hlen k) hlt (hit k) (jmp := jmp k) (hp := H k) (hp' := H (k + 1)) (g := G k) (g' := G (k + 1)) (by rw [hl, hl]) (hround k hk (fun j h => by simpa [c] using hjk j h)) hpo
  show VDoes P R2 u (items k) hpo ((G k, stJ jmp k), H k) (.ret (.bool (jmp k).isNone)) hpo ((G (k + 1), stJ jmp (k + 1)), H (k + 1))
  rw [e]
  exact this)
 have okI : Ok R2 [o] (G2 0) FM [pb] W1 := by
  refine ⟨relI W1 ok1.rel, ⟨⟨rel0 W1 ok1.rel, ⟨by rw [show (G2 0).1.1 = s.g from hg0]; exact ok1.j, hD1, hL1, ⟨nF D (by omega), nF L (by omega)⟩, ?_, ?_⟩, fun b hb => ?_⟩, fun _ _ h => h⟩, fun b hb => ⟨?_, fun hI => ?_⟩⟩
  ·rw [show (G2 0).1.1 = s.g from hg0]; exact nB D (by omega)
  ·rw [show (G2 0).1.1 = s.g from hg0]; exact nB L (by omega)
  ·have hb' : R.B s.g b ∨ b = D ∨ b = L := by
    rcases hb with hb | hb
    ·rw [show (G2 0).1.1 = s.g from hg0] at hb; exact .inl hb
    ·exact .inr hb
   rcases hb' with hb | rfl | rfl
   ·exact ⟨(ok1.bd b hb).1, fun h => (ok1.bd b hb).2 ((hInB b).2 (.inl h))⟩
   ·exact ⟨by omega, fun h => nIn _ (by omega) ((hInB _).2 (.inl h))⟩
   ·exact ⟨by omega, fun h => nIn _ (by omega) ((hInB _).2 (.inl h))⟩
  ·rcases hb with (hb | rfl | rfl) | ⟨p, hp, hb, hre⟩
   ·rw [show (G2 0).1.1 = s.g from hg0] at hb; exact (ok1.bd b hb).1
   ·omega
   ·omega
   ·obtain ⟨i, hi⟩ := List.getElem?_of_mem hp
    rw [← hb]; exact (ok1.rel.obj i p (hsub0 i p hi)).1 hre
  ·rcases hb with (hb | rfl | rfl) | hb
   ·rw [show (G2 0).1.1 = s.g from hg0] at hb; exact (ok1.bd b hb).2 ((hInB b).2 (.inr hI))
   ·exact nIn _ (by omega) ((hInB _).2 (.inr hI))
   ·exact nIn _ (by omega) ((hInB _).2 (.inr hI))
   ·exact hdis b hI hb
 have hargs : DenL FM [pb] [.val u, .ref 0 0] ((xs ++ #[u]) ++ ys) := by
  have hxs0 : xs = #[] := Array.size_eq_zero_iff.1 hxs
  have hd0 := hdb 0 (by omega)
  rw [hfb] at hd0
  obtain ⟨p, hp1, hp2⟩ := hd0
  rw [hpb] at hp1; cases hp1
  subst hxs0
  refine ⟨by simp [hys], fun i hi => ?_⟩
  match i, hi with
  | 0, _ =>
    show _ = u ∧ _
    exact ⟨by simp [Array.getD_eq_getD_getElem?, Array.getElem?_append], rfl⟩
  | 1, _ =>
    refine ⟨pb, rfl, ?_⟩
    rw [← hp2]
    simp [Array.getD_eq_getD_getElem?, Array.getElem?_append]
 obtain ⟨hp1, hd1, hdoes⟩ := hdoes
 have hcalls := hdoes.h FM [pb] W1 _ okI hargs
 have hfn' : ∃ fn, P.funcs[f]? = some fn ∧ fn.name ≠ "runtime.NumGoroutine" ∧ fn.body.isSome = true := by
  unfold isPlain at hpl
  split at hpl
  ·rename_i fn hfn
   simp only [Bool.and_eq_true, bne_iff_ne, ne_eq] at hpl
   exact ⟨fn, hfn, hpl.1, hpl.2⟩
  ·cases hpl
 obtain ⟨fnF, hF1, hF2, hF3⟩ := hfn'
 have hF3' : ¬ fnF.body = none := fun h => by rw [h] at hF3; cases hF3
 refine ⟨L, [markOf D], W1, { target := .fn (.func f) ys, args := xs ++ #[u] }, W1, f, (xs ++ #[u]) ++ ys, W1, ?_, ?_, fun _ _ => trivial, ?_, fun h => (by cases h), (callsIn_Fw hcalls).mono ?_⟩
 ·rw [← hW1, hrec, hD, hL]; exact run_enterLoop_outer _ _ _ _ _
 ·simp [resolve, hu, Deferred.ofValue, u]
  rfl
 ·simp [invoke, callFunc, hF1, hF2, hF3']
 -- behind it
 rintro e w3 ⟨FM', ρ', ⟨v, rfl, _⟩, ok3, go3⟩
 have hdl := hd1
 obtain rfl : ρ' = [pb] := by
  have hl1 : ρ'.length = 1 := by rw [ok3.rel.len, hdl]
  match ρ', hl1 with
  | [q], _ =>
    have := go3.sub 0 pb rfl
    cases this; rfl
 obtain ⟨m', hm⟩ : ∃ m', m' = stopF c N 0 := ⟨_, rfl⟩
 rw [← hm] at ok3 go3
 obtain ⟨okL, hmono⟩ := ok3.j
 obtain ⟨jR, hD3, hL3, ⟨fD, fL⟩, bD, bL⟩ := okL.j
 have okR := ok_of_loopR okL
 have hnb : (stJ jmp m').1 ≠ .busy := by
  cases m' with
  | zero => simp [stJ]
  | succ k => simp only [stJ]; split <;> simp
 have hend := run_endLoop (P := P) hL3 (by rw [hrec]; exact hnb)
 obtain ⟨p, w4, hend, hp, hw4⟩ : ∃ p w4, (Instr.endLoop L).run P w3 = .ok p w4 ∧ p = (stJ jmp m').2 ∧ w4 = w3.putObj L (.loop { rec (stJ jmp m').1 (stJ jmp m').2 with state := .exhausted }) := ⟨_, _, hend, by rw [hrec], rfl⟩
 refine ⟨p, w4, hend, ?_⟩
 have okR1 : Ok R (H m' ++ [.dead]) (G m') FM' ρ w3 := by
  have hgd : ∀ i, i < m → getO (H m' ++ [.dead]) i = getO (H m') i := fun i hi => getO_append_lt (by rw [hl]; exact hi)
  have hgdm : getO (H m' ++ [.dead]) m = .dead := by rw [getO_append_ge (by rw [hl]; exact Nat.le_refl _), hl, Nat.sub_self]; rfl
  have hback : ∀ i p, ρ[i]? = some p → (i < m ∧ ρ0[i]? = some p) ∨ (i = m ∧ p = pb) := fun i p hi => by
   have : i < m + 1 := by rw [← hρl]; exact (List.getElem?_eq_some_iff.1 hi).1
   rcases Nat.lt_or_ge i m with h | h
   ·exact .inl ⟨h, by rw [hρ0, List.getElem?_take, if_pos h]; exact hi⟩
   ·have : i = m := by omega
    subst this
    rw [hpb] at hi; cases hi
    exact .inr ⟨rfl, rfl⟩
  have hnl : ∀ i p, ρ[i]? = some p → isLive (getO (H m' ++ [.dead]) i) = true → i < m ∧ ρ0[i]? = some p := fun i p hi hv => by
   rcases hback i p hi with h | ⟨rfl, rfl⟩
   ·exact h
   ·rw [hgdm] at hv; cases hv
  refine ⟨⟨okR.rel.fm, by rw [hρl]; simp [hl], fun i p hi => ?_, fun i j p q hi hj hv1 hv2 e => ?_⟩, okR.j, fun b hb => ⟨(okR.bd b hb).1, fun hI => ?_⟩⟩
  ·rcases hback i p hi with ⟨h1, h2⟩ | ⟨rfl, rfl⟩
   ·obtain ⟨k1, k2⟩ := okR.rel.obj i p h2
    rw [hgd i h1]
    exact ⟨k1, objRel_sub hsub0 k2⟩
   ·rw [hgdm]
    refine ⟨fun hre => ?_, trivial⟩
    have h1 := (hs.ok.rel.obj i p hi).1 hre
    have := go3.ext.size
    omega
  ·obtain ⟨a1, a2⟩ := hnl i p hi hv1
   obtain ⟨b1, b2⟩ := hnl j q hj hv2
   rw [hgd i a1] at hv1
   rw [hgd j b1] at hv2
   exact okR.rel.inj i j p q a2 b2 hv1 hv2 e
  ·rcases (hInB b).1 hI with h | h
   ·exact (okR.bd b hb).2 h
   ·exact (ok3.bd b (.inl (.inl hb))).2 h
 have ok4 := ok_put (.loop { rec (stJ jmp m').1 (stJ jmp m').2 with state := .exhausted }) (nIn L (by omega)) bL fL okR1
 have go4 : Goes R s.g FM ρ w (G m') FM' ρ (w3.putObj L (.loop { rec (stJ jmp m').1 (stJ jmp m').2 with state := .exhausted })) := by
  have hB0 : ∀ b, R2.B (G2 0) b → R.B s.g b ∨ w.heap.size ≤ b ∨ InB ρ0 b := fun b hb => by
   rcases hb with (hb | rfl | rfl) | hb
   ·rw [show (G2 0).1.1 = s.g from hg0] at hb; exact .inl hb
   ·exact .inr (.inl (by omega))
   ·exact .inr (.inl (by omega))
   ·exact .inr (.inr hb)
  refine ⟨⟨go3.ext.fm, fun b o hb => ?_, fun b hb => .inl hb, fun b h1 h2 h3 => ?_, ?_, go3.ext.os.trans go1.ext.os, go3.ext.tape.trans go1.ext.tape, go3.ext.output.trans go1.ext.output⟩, fun b hb => ?_, Sub.refl _⟩
  ·rcases go3.ext.grow b o hb with h | h | h | h
   ·exact .inl h
   ·exact .inr (.inl (by omega))
   ·exact .inr (.inr (.inl ((hInB b).2 (.inr h))))
   ·rcases hB0 b h with h | h | h
    ·exact .inr (.inr (.inr h))
    ·exact .inr (.inl h)
    ·exact .inr (.inr (.inl ((hInB b).2 (.inl h))))
  ·rw [World.putObj_heap_other (by omega)]
   refine (go3.ext.keep b (by omega) (fun hI => h2 ((hInB b).2 (.inr hI))) (fun hb => ?_)).trans (go1.ext.keep b h1 h2 h3)
   rcases hB0 b hb with h | h | h
   ·exact h3 h
   ·omega
   ·exact h2 ((hInB b).2 (.inl h))
  ·have := go3.ext.size
   simp; omega
  ·have hin : R2.B (G2 m') b := .inl (.inl hb)
   rcases go3.bn b hin with h | h
   ·rcases hB0 b h with h | h | h
    ·exact .inl h
    ·exact .inr h
    ·exact absurd h (okR.bd b hb).2
   ·exact .inr (by omega)
 have hsat : Sat R C nt ⟨s.fr, H m' ++ [.dead], G m'⟩ FM' ρ { a with defers := [markOf D] ++ a.defers } (w3.putObj L (.loop { rec (stJ jmp m').1 (stJ jmp m').2 with state := .exhausted })) := by
  refine ⟨ok4, hs.goes.trans go4, hs.size, ?_, fun t => Den.mono go4.ext.fm _ go4.sub (hs.fr t)⟩
  obtain ⟨ms, e1, e2, e3, e4⟩ := hs.defs
  refine ⟨D :: ms, by rw [e1]; rfl, List.nodup_cons.2 ⟨fun hmem => ?_, e2⟩, fun h => ?_, fun X hX => ?_⟩
  ·have := (Array.getElem?_eq_some_iff.1 (e4 D hmem).obj).1
   omega
  ·rw [hC.2] at h; cases h
  ·rcases List.mem_cons.1 hX with rfl | hX
   ·exact ⟨(World.putObj_heap_other hne).trans hD3, nIn _ (by omega), bD, fD, by have := hs.goes.ext.size; omega⟩
   ·exact (e4 X hX).goes go4
 rw [← hw4] at hsat
 rcases stopF_cases c N 0 with ⟨h1, h2⟩ | ⟨i, h1, h2, h3, h4, h5⟩
 ·have hmN : m' = N := by omega
  have hall : ∀ k, k < N → jmp k = none := fun k hk => by simpa [c] using h1 k (by omega) (by omega)
  have e := hstJ m' (fun j hjm => h1 j (by omega) (by omega))
  have e2 : p = none := by rw [hp, e]
  subst e2
  rw [hmN] at hsat
  exact ⟨_, hdone hall, FM', ρ, hsat⟩
 ·have hmi : m' = i + 1 := by omega
  have hall : ∀ k, k < i → jmp k = none := fun k hk => by simpa [c] using h3 k (by omega) hk
  have e2 : p = jmp i := by rw [hp, hmi]; rfl
  have hji := hj i
  rw [hmi] at hsat
  cases hc : jmp i with
  | none => simp [c, hc] at h4
  | some x =>
    rw [hc] at hji e2
    subst e2
    cases x <;> simp only [jOk] at hji <;> first | (cases hji; done) | skip
    ·exact wpIn_exit ⟨_, hexit i _ (by omega) hall hc, FM', ρ, hsat⟩
    ·exact wpIn_ret ⟨_, hret i (by omega) hall hc, FM', ρ, hsat⟩
def AssB (P : Program) (R : Res) (nt n l : Nat) (b : Code) (q : List Nat) (jmp : Option Code) (hp' : List AObj) (g' : R.σ) : AEx → St R.σ → Prop
 | .normal, s => Wp P R nt s.hp.length (.inr l) b q (RndQ R n jmp hp' g') s
 | _, _ => False
theorem wp_range1 {nt k0 : Nat} {b : Code} {p : List Nat} {Q : AEx → St R.σ → Prop} {s : St R.σ} (t : Nat) (psl : List Nat) (m : Nat) (hl : rangeAt t psl (sub b p) = true) {f : Nat} {fa fb : Nat → AV} {o : AObj} (hf : lk s.fr t = .fn f 0 fa 1 fb) (hfb : fb 0 = .ref m 0) (hpl : isPlain P f = true)
  {N : Nat} {items : Nat → List AV} {T : Mem → Prop} [Tab T R] (hseq : SeqO P f o N items T) (hlen : ∀ k, (items k).length = psl.length) (hlt : allLt psl nt = true) (hit : ∀ k, allB 0 (items k))
  (jmp : Nat → Option Code) (hj : ∀ k, jOk (jmp k) = true) (H : Nat → List AObj) (G : Nat → R.σ) (h0 : To R k0 s ⟨s.fr, H 0 ++ [o], G 0⟩) (hlH : ∀ k, (H k).length = m)
  (hlive : allLive (H 0 ++ [o])) (hBO : allBO m (H 0)) (hBo : allBO 0 [o]) (ts : List Nat) (hBf : allIn ts (fun t => Below m (lk s.fr t)))
  (hround : ∀ k l, k < N → (∀ j, j < k → jmp j = none) → Wp P R nt m (.inr l) b (p ++ [0]) (AssB P R nt m l b (p ++ [1]) (jmp k) (H (k + 1)) (G (k + 1))) ⟨setPs psl (items k) (slotsOf ts s.fr), H k, G k⟩)
  (hdone : (∀ k, k < N → jmp k = none) → Q .normal ⟨s.fr, H N ++ [.dead], G N⟩)
  (hret : ∀ k, k < N → (∀ j, j < k → jmp j = none) → jmp k = some .ret → Q .ret ⟨s.fr, H (k + 1) ++ [.dead], G (k + 1)⟩)
  (hexit : ∀ k id, k < N → (∀ j, j < k → jmp j = none) → jmp k = some (.exit id) → Q (.exit id) ⟨s.fr, H (k + 1) ++ [.dead], G (k + 1)⟩) :
  Wp P R nt k0 .top b p Q s := by
 obtain ⟨ps, assign, body, hc, rfl⟩ : ∃ ps assign body, sub b p = .rangeFunc (.tmp t) ps assign body ∧ ps.toList = psl := by
  unfold rangeAt at hl
  split at hl
  ·rename_i u ps assign body hs
   simp only [Bool.and_eq_true] at hl
   have := Nat.eq_of_beq_eq_true hl.1
   subst this
   exact ⟨ps, assign, body, hs, eqPath_eq hl.2⟩
  ·cases hl
 have e0 : sub b (p ++ [0]) = assign := by rw [sub_snoc, hc]; exact sub_nil assign
 have e1 : sub b (p ++ [1]) = body := by rw [sub_snoc, hc]; exact sub_nil body
 refine ⟨?_⟩
 rw [hc]
 refine wpA_to h0 (wpA_range1 (s := ⟨s.fr, H 0 ++ [o], G 0⟩) hf hfb hpl hseq hlen hlt hit jmp hj H G rfl rfl hlH hlive hBO hBo ts hBf (fun k hk hjk l => ?_) hdone hret hexit)
 have h1 := (hround k l hk hjk).h
 rw [e0] at h1
 rw [show (St.hp ⟨setPs ps.toList (items k) (slotsOf ts s.fr), H k, G k⟩).length = m from hlH k]
 refine wpA_conseq h1 (fun e s' hq => ?_)
 cases e with
 | normal =>
   have h2 := (show Wp _ _ _ _ _ _ _ _ _ from hq).h
   rw [e1] at h2
   exact ⟨rfl, h2⟩
 | exit id => exact hq.elim
 | ret => exact hq.elim
 | pan v => exact hq.elim
def condIs (v : Bool) : Code → Bool
 | .cond (.const (.bool u)) _ _ => u == v
 | _ => false
theorem wp_condK {nt k0 : Nat} {r : Rd} {b : Code} {p : List Nat} {Q : AEx → St R.σ → Prop} {s : St R.σ} (v : Bool) (hc : condIs v (sub b p) = true) (h : Wp P R nt k0 r b (p ++ [if v then 0 else 1]) Q s) : Wp P R nt k0 r b p Q s := by
 obtain ⟨x, y, hc⟩ : ∃ x y, sub b p = .cond (.const (.bool v)) x y := by
  unfold condIs at hc
  split at hc
  ·rename_i u x y hs
   have := eq_of_beq hc
   subst this
   exact ⟨x, y, hs⟩
  ·cases hc
 refine ⟨?_⟩
 rw [hc]
 have e0 : sub b (p ++ [0]) = x := by rw [sub_snoc, hc]; exact sub_nil x
 have e1 : sub b (p ++ [1]) = y := by rw [sub_snoc, hc]; exact sub_nil y
 have h1 := h.h
 intro C hC n a w hs
 cases v with
 | true =>
   refine wpIn_cond_split (t := true) rfl (fun _ => ?_) (fun h => by cases h)
   rw [← e0]; exact h1 C hC n a w hs
 | false =>
   refine wpIn_cond_split (t := false) rfl (fun h => by cases h) (fun _ => ?_)
   rw [← e1]; exact h1 C hC n a w hs
def isTab (P : Program) (t n : Nat) : Bool := match tyOf P t with
 | some ti => match ti.desc with
   | .array m e => Nat.beq m n && (match tyOf P e with
     | some ei => Nat.beq ei.size 1
     | none => false)
   | _ => false
 | none => false
theorem opOk_tabAt {gs : List (Nat × List Int)} [hT : Tab (Tabs gs) R] {o : Oper} {ev : Operand → AV} {hp : List AObj} {g : R.σ} (b : Nat) (zs : List Int) (hb : (b, zs) ∈ gs) (hg : ev (.global b) = .val (.pointer (some ⟨b, 0, none⟩))) {t : TypeId} {y : Operand} {k : IntKind} {i v : Int}
  (ho : o.op = .indexAddr t (.global b) y) (hng : isGlob b y = false) (hi : ev y = .int k i) (hT0 : isTab P t zs.length = true) (h0 : 0 ≤ i) (h1 : i < zs.length) (hv : zs.getD i.toNat 0 = v) :
  OpOk P R o ev hp g (.fp 1 (fun _ => .int .u8 v)) hp g := by
 obtain ⟨ti, e, ei, ht, hd, he, hs⟩ : ∃ ti e ei, tyOf P t = some ti ∧ ti.desc = .array zs.length e ∧ tyOf P e = some ei ∧ ei.size = 1 := by
  unfold isTab at hT0
  split at hT0
  ·rename_i ti hti
   split at hT0
   ·rename_i m e hd
    simp only [Bool.and_eq_true] at hT0
    obtain ⟨h1, h2⟩ := hT0
    split at h2
    ·rename_i ei hei
     exact ⟨ti, e, ei, hti, by rw [hd, Nat.eq_of_beq_eq_true h1], hei, Nat.eq_of_beq_eq_true h2⟩
    ·cases h2
   ·cases hT0
  ·cases hT0
 have hi' : evTab b zs ev y = .int k i := by unfold evTab; rw [hng]; exact hi
 have hx' : evTab b zs ev (.global b) = .fp zs.length (fun j => .int .u8 (zs.getD j 0)) := by unfold evTab isGlob; simp
 refine opOk_tab (gs := gs) b zs hb hg (out := ⟨.fp (zs.length - i.toNat * ei.size) (shG (offs 0 i.toNat ei.size) (fun j => .int .u8 (zs.getD j 0))), hp, [0 ≤ i ∧ i < (zs.length : Int)], .pure⟩) ?_ ⟨⟨h0, h1⟩, trivial⟩ ?_
 ·rw [ho]
  simp only [runPure, runPure0, ht, hi', hd, hx', he]
  rfl
 ·rintro FM ρ w ⟨b', off, e1, h2⟩
  refine ⟨b', off, e1, fun j hj => ?_⟩
  have : j = 0 := by omega
  subst this
  have h3 := h2 0 (by rw [hs]; omega)
  rw [hs] at h3
  have e4 : shG (offs 0 i.toNat 1) (fun j => AV.int .u8 (zs.getD j 0)) 0 = .int .u8 v := by
   rw [← hv]
   unfold shG offs
   simp
  rw [e4] at h3
  exact h3
theorem opOk_le {o : Oper} {ev : Operand → AV} {hp : List AObj} {g : R.σ} {x : AV} {out : Out} (h : runPure (tyOf P) hp ev .none o.op = some out) (hob : AllP out.ob) (hx : Le out.v x) : OpOk P R o ev hp g x hp g := by
 refine ⟨fun FM ρ w evc okw hop => ?_⟩
 classical
 let ev' : Operand → AV := fun y => if y ∈ o.op.operands then ev y else .any
 have hev' : ∀ y, Den FM ρ (ev' y) (evc y) := by
  intro y
  by_cases hy : y ∈ o.op.operands
  ·simp only [ev', hy, if_true]; exact hop y hy
  ·simp only [ev', hy, if_false]; trivial
 have hsame : ∀ y ∈ o.op.operands, ev y = ev' y := fun y hy => by simp only [ev', hy, if_true]
 rw [runPure_ev hsame] at h
 obtain ⟨⟨v, h1, h2⟩, h3⟩ := runPure_sound okw.rel hev' h hob
 exact ⟨_, w, FM, ρ, v, h1, rfl, hx _ _ _ h2, okw, ⟨Ext.refl _ _ _ _, fun _ h => .inl h, Sub.refl _⟩⟩
end
end Go.Avm
namespace Go.Avm
open Go
variable {P : Program} {R : Res}
theorem run_items {e : TypeId} {k : IntKind} (he : P.underlying e = some (.int k)) {FM : Mem} {ρ : Plc} {n : Nat} {a b : Nat → Int} {xs ys : Array Value} (hx : xs.size = n) (hy : ys.size = n) (hdx : ∀ j, j < n → Den FM ρ (.int k (a j)) (xs.getD j undef)) (hdy : ∀ j, j < n → Den FM ρ (.int k (b j)) (ys.getD j undef)) (d : Nat) (w : World) :
  ∀ is : List Nat, (∀ i, i ∈ is → i < n) → (Op.eqItems (d + 1) e 1 xs ys is).run P w = .ok (is.all fun i => a i == b i) w
 | [], _ => rfl
 | i :: is, h => by
   have hi : i < n := h i List.mem_cons_self
   have ih := run_items he hx hy hdx hdy d w is (fun j hj => h j (List.mem_cons_of_mem _ hj))
   have heq := eqCell_val (x := .int k (a i)) (y := .int k (b i)) (r := a i == b i) he (by simp [eqCell]) (hdx i hi) (hdy i hi) d w
   have p1 := run_part_scalar (P := P) he rfl xs i (by omega) w
   have p2 := run_part_scalar (P := P) he rfl ys i (by omega) w
   simp only [Op.eqItems, Sem.run_bind, Nat.mul_one]
   rw [p1]
   simp only [Result.andThen_ok]
   rw [p2]
   simp only [Result.andThen_ok, heq]
   cases hb : (a i == b i)
   ·simp [hb]
   ·simp only [Bool.not_true, Bool.false_eq_true, if_false, List.all_cons, hb, Bool.true_and]
    exact ih
theorem opOk_eqArr {o : Oper} {ev : Operand → AV} {hp : List AObj} {g : R.σ} {t t2 e : TypeId} {x y : Operand} {k : IntKind} {n : Nat} {a b : Nat → Int} (ho : o.op = .binOp .eql t x y t2) (hx : ev x = .agg n (fun j => .int k (a j))) (hy : ev y = .agg n (fun j => .int k (b j)))
  (hu : P.underlying t = some (.array n e)) (he : P.underlying e = some (.int k)) (hi : (P.info? e).isSome = true) (hc : P.cellsOf e = 1) (hg : P.eqGuardType P.depth t = false) : OpOk P R o ev hp g (.bool (decide (∀ j, j < n → a j = b j))) hp g := by
 refine ⟨fun FM ρ w evc okw hop => ?_⟩
 obtain ⟨i, hi⟩ := Option.isSome_iff_exists.1 hi
 have h1 := hop x (by simp [ho, Op.operands])
 have h2 := hop y (by simp [ho, Op.operands])
 rw [hx] at h1
 rw [hy] at h2
 obtain ⟨cs, e1, s1, c1⟩ := h1
 obtain ⟨ds, e2, s2, c2⟩ := h2
 have hitems := run_items (P := P) he s1 s2 (fun j hj => (c1 j hj).2) (fun j hj => (c2 j hj).2) 9998 w (List.range n) (fun j hj => by simpa using hj)
 have hr : ((List.range n).all fun i => a i == b i) = decide (∀ j, j < n → a j = b j) := by
  rw [Bool.eq_iff_iff, decide_eq_true_iff, List.all_eq_true]
  exact ⟨fun h j hj => by simpa using h j (by simpa using hj), fun h j hj => by simpa using h j (by simpa using hj)⟩
 have hq : (Op.equal t (.agg cs) (.agg ds)).run P w = .ok (decide (∀ j, j < n → a j = b j)) w := by
  show (Op.equalIn (9999 + 1) t (.agg cs) (.agg ds)).run P w = _
  rw [run_equalIn_array w 9999 cs ds hu hi, hc, ← hr]
  exact hitems
 have hgd := run_eqGuard_agg (P := P) w .eql t x y cs ds hg
 refine ⟨.value (.bool (decide (∀ j, j < n → a j = b j))), w, FM, ρ, .bool (decide (∀ j, j < n → a j = b j)), ?_, rfl, rfl, okw, Goes.refl _ _ _ _ _⟩
 have hb := binOp_eql t (v := .agg cs) (u := .agg ds) (by simp) (by simp) (by simp) (by simp)
 simp [execOp, ho, e1, e2, hgd, hb, hq]
end Go.Avm
namespace Go.Avm
open Go
variable {P : Program} {R : Res}
def isOne (P : Program) (t : Nat) : Bool := match tyOf P t with
 | some ti => !ti.agg && Nat.beq ti.size 1
 | none => false
theorem isOne_of {t : Nat} (h : isOne P t = true) : ∃ ti, tyOf P t = some ti ∧ ti.agg = false ∧ ti.size = 1 := by
 unfold isOne at h
 split at h
 ·rename_i ti hti
  simp only [Bool.and_eq_true, Bool.not_eq_true'] at h
  exact ⟨ti, hti, h.1, Nat.eq_of_beq_eq_true h.2⟩
 ·cases h
theorem le_canon (x : AV) : Le (canonV x) x := by
 cases x with
 | agg n get =>
   refine Le.agg fun j hj => ?_
   exact Le.of_eq (canon_get hj)
 | _ => exact Le.refl _
theorem opOk_loadK {o : Oper} {ev : Operand → AV} {hp : List AObj} {g : R.σ} {t : TypeId} {p : Operand} {b off n : Nat} {f : Bool} {get : Nat → AV} (ho : o.op = .load t p) (hp0 : ev p = .ref b off) (h1 : isOne P t = true) (hg : getO hp b = .cells f n get) (hn : off + 1 ≤ n) {x : AV} (hx : get off = x) :
  OpOk P R o ev hp g x hp g := by
 obtain ⟨ti, e1, e2, e3⟩ := isOne_of h1
 have hs : isStrOp (tyOf P) (.load t p) = false ∨ isStrOp (tyOf P) (.load t p) = true := by cases isStrOp (tyOf P) (.load t p) <;> simp
 refine opOk_le (out := ⟨bif isStrOp (tyOf P) (.load t p) then canonV (mkvO ti.agg ti.size off get) else mkvO ti.agg ti.size off get, hp, [off + ti.size ≤ n], .load b⟩) ?_ ⟨by rw [e3]; exact hn, trivial⟩ ?_
 ·rw [ho]
  simp only [runPure, runPure0, e1, hp0, hg, e2, e3]
  rfl
 ·have hm : mkvO ti.agg ti.size off get = x := by rw [e2, e3]; subst hx; simp [mkvO]
  rw [hm]
  cases isStrOp (tyOf P) (.load t p) with
  | false => exact Le.refl _
  | true => exact le_canon x
end Go.Avm
namespace Go.Avm
open Go
section
variable {P : Program} {R : Res}
def esIs (P : Program) (t es : Nat) : Bool := match elemSize (tyOf P) t with
 | some (s, _) => Nat.beq s es
 | none => false
theorem esIs_of {t es : Nat} (h : esIs P t es = true) : ∃ ei, elemSize (tyOf P) t = some (es, ei) := by
 unfold esIs at h
 split at h
 ·rename_i s ei he
  have := Nat.eq_of_beq_eq_true h
  subst this
  exact ⟨ei, he⟩
 ·cases h
theorem opOk_copy {o : Oper} {ev : Operand → AV} {hp : List AObj} {g : R.σ} {t es N n len : Nat} {k : Call} {d x : Operand} {ob off cap : Nat} {ex : Bool} {get0 get' : Nat → AV} {new : Nat → Nat → AV} {ob1 : List Prop} (m : Nat)
  (ho : o.op = .call k) (hk : k.callee = .builtin .copy) (ha : k.args = #[d, x]) (ht : k.argTypes = #[t, t]) (hd : ev d = .sl ob off len cap ex es) (hob : getO hp ob = .cells false N get0) (hes1 : esIs P t es = true)
  (hx : sliceCells hp es (ev x) = some (n, new, ob1)) (h1 : AllP ob1) (hm : m = min n len) (hm0 : 0 < m) (hes : 0 < es) (hN : off + len * es ≤ N)
  (hg : ∀ c, c < N → get' c = if off ≤ c ∧ c < off + m * es then new ((c - off) / es) ((c - off) % es) else get0 c) :
  OpOk P R o ev hp g (.int .i64 m) (setO hp ob (.cells false N get')) g := by
 obtain ⟨ei, hei⟩ := esIs_of hes1
 refine ⟨fun FM ρ w evc ok hop => ?_⟩
 have hdd := hop d (by simp [ho, Op.operands, Call.operands, ha])
 have hdx := hop x (by simp [ho, Op.operands, Call.operands, ha])
 obtain ⟨e, ti, hti, hds, hee, hse⟩ := elemSize_ok hei
 have hu := hti.und
 rw [hds] at hu
 obtain ⟨inf, hi1, hi2, hi3, z, hz0, hzs, _, _, hone⟩ := hee.info
 rw [hd] at hdd
 obtain ⟨q, cap', hq, hdv, hcap, _, hfit⟩ := hdd
 obtain ⟨a, c, vs, x1, x2, x3, x4, x5, x6⟩ := slice_read ok.rel hx hes h1 hdx
 have hmn : m ≤ n := by omega
 have hml : m ≤ len := by omega
 have hmes : m * es ≤ n * es := Nat.mul_le_mul_right _ hmn
 have hmes2 : m * es ≤ len * es := Nat.mul_le_mul_right _ hml
 have hpos : 0 < N := Nat.lt_of_lt_of_le (Nat.mul_pos hm0 hes) (by omega)
 obtain ⟨_, hobj'⟩ := ok.rel.obj ob q hq
 rw [hob] at hobj'
 obtain ⟨cur, e', hcur, hN', hcsz, hcells, _, hfn⟩ := hobj' hpos
 cases a with
 | none => have := x5 rfl; omega
 | some a =>
   obtain ⟨ys, hys⟩ : ∃ ys, ys = vs.take (m * es) := ⟨_, rfl⟩
   have yl : ys.length = m * es := by rw [hys, List.length_take]; omega
   have yg : ∀ j, j < m * es → ys[j]? = vs[j]? := fun j hj => by rw [hys, List.getElem?_take, if_pos hj]
   have yd : ∀ j, j < m * es → ys.getD j undef = vs.getD j undef := fun j hj => by rw [List.getD_eq_getElem?_getD, List.getD_eq_getElem?_getD, yg j hj]
   have yc : ∀ j u, ys[j]? = some u → w.cell? (a.add j) = some u := fun j u hj => by
    have hlt : j < m * es := by rw [← yl]; exact (List.getElem?_eq_some_iff.1 hj).1
    exact x3 a rfl j u (by rw [← yg j hlt]; exact hj)
   have y1 : ∀ u ∈ ys, u.oneCell' = true := fun u hu => x4 u (by rw [hys] at hu; exact List.mem_of_mem_take hu)
   have hf := run_firstCells_some (P := P) w inf.size m a n c ys (by rw [hi2, ← hse]; exact yl) yc
   have hst := run_storeCells_at P q.1 (q.2.1 + off) e' ys 0 cur w hcur (by rw [yl]; omega) y1
   simp only [Nat.add_zero] at hst
   have hwr := Wrote.setRow hcur (cur.toList.take (q.2.1 + off) ++ ys ++ cur.toList.drop (q.2.1 + off + ys.length)).toArray
   have hfit2 : q.2.1 + off + ys.length ≤ cur.toList.length := by rw [yl]; simp; omega
   obtain ⟨b1, b2⟩ := hrel_set ok.rel hq hob hpos hwr (by rw [List.size_toArray, length_written _ _ _ hfit2]; simpa using hcsz) (n := N) (get := get') (by rw [List.size_toArray, length_written _ _ _ hfit2]; simp; omega) (fun j hj => by
    rw [getD_written _ _ _ hfit2, hg j hj, yl]
    by_cases hin : off ≤ j ∧ j < off + m * es
    ·rw [if_pos hin, if_pos (by omega)]
     have e2 : q.2.1 + j - (q.2.1 + off) = j - off := by omega
     rw [e2, yd _ (by omega)]
     refine ⟨?_, x6 _ (by omega)⟩
     rw [List.getD_eq_getElem?_getD, List.getElem?_eq_getElem (by omega), Option.getD_some]
     exact x4 _ (List.getElem_mem _)
    ·rw [if_neg hin, if_neg (by omega)]
     obtain ⟨u, u1, u2, u3⟩ := hcells j hj
     have : cur.toList.toArray.getD (q.2.1 + j) undef = u := by
      rw [Array.getD_eq_getD_getElem?, Array.toArray_toList, u1]; rfl
     rw [this]
     exact ⟨u2, u3⟩)
   obtain ⟨c1, c2⟩ := own_step ok b1 b2 (Sub.refl _)
   refine ⟨.value (.int .i64 m), _, FM, ρ, _, ?_, rfl, rfl, c1, c2⟩
   have hmm : Nat.min n len = m := hm.symm
   simp [execOp, ho, resolve, hk, ha, ht, invoke, builtin, hdv, x1, Builtin.copy_, Builtin.lenOf, run_underlying hu, sizeOf, typeInfo, hi1, hmm, hf, hst, goInt]
theorem opOk_appendZ {o : Oper} {ev : Operand → AV} {hp : List AObj} {g : R.σ} {t es1 : Nat} {k : Call} {s x : Operand} {ob off len cap es2 : Nat} {ex : Bool} {kd : Fz} {get : Nat → Nat → AV}
  (ho : o.op = .call k) (hk : k.callee = .builtin .append) (ha : k.args = #[s, x]) (ht : k.argTypes = #[t, t]) (hs : ev s = .sl ob off len cap ex es1) (hes1 : esIs P t es1 = true) (hx : ev x = .fz kd es2 0 get) (hlc : len ≤ cap) :
  OpOk P R o ev hp g (.sl ob off len cap ex es1) hp g := by
 obtain ⟨ei, hei⟩ := esIs_of hes1
 refine ⟨fun FM ρ w evc ok hop => ?_⟩
 have hds := hop s (by simp [ho, Op.operands, Call.operands, ha])
 have hdx := hop x (by simp [ho, Op.operands, Call.operands, ha])
 obtain ⟨e, ti, hti, hd, hee, hse⟩ := elemSize_ok hei
 have hu := hti.und
 rw [hd] at hu
 obtain ⟨inf, hi1, hi2, hi3, z, hz, hzs, _⟩ := hee.info
 rw [hs] at hds
 rw [hx] at hdx
 have hds' := hds
 obtain ⟨q, cap', hq, hsv, hcap, _⟩ := hds
 have hxv : ∃ a c, evc x = .slice a 0 c := by
  cases he : emptyF kd 0 with
  | true => obtain ⟨_, a, c, h, _⟩ := hdx.1 he; exact ⟨a, c, h⟩
  | false => obtain ⟨b, off2, cap2, h, _⟩ := hdx.2 he; exact ⟨_, cap2, h⟩
 obtain ⟨a, c, hxv⟩ := hxv
 have hrun := run_append_zero (P := P) w t o.type e inf hu hi1 (some ⟨q.1, q.2.1 + off, none⟩) len cap' (by omega) a c
 refine ⟨.value _, w, FM, ρ, _, ?_, rfl, hds', ok, Goes.refl _ _ _ _ _⟩
 simp [execOp, ho, resolve, hk, ha, ht, invoke, builtin, hsv, hxv, hrun]
theorem opOk_sliceEnd {o : Oper} {ev : Operand → AV} {hp : List AObj} {g : R.σ} {t es n : Nat} {x : Operand} {ob off : Nat} {lo : Operand} {kd : IntKind}
  (ho : o.op = .slice t x (some lo) none none) (hx : ev x = .sl ob off n n true es) (hlo : ev lo = .int kd n) (hes1 : esIs P t es = true) :
  OpOk P R o ev hp g (.fz .exm es 0 (fun _ _ => .any)) hp g := by
 obtain ⟨ei, hei⟩ := esIs_of hes1
 obtain ⟨e, ti, hok, hd, hee, hse⟩ := elemSize_ok hei
 refine ⟨fun FM ρ w evc ok hop => ?_⟩
 have hdx := hop x (by simp [ho, Op.operands])
 have hdl := hop lo (by simp [ho, Op.operands])
 rw [hx] at hdx
 rw [hlo] at hdl
 have hl : evc lo = .int kd n := hdl
 obtain ⟨q, cap', hq, hv, hcc, hex, hfit⟩ := hdx
 have hcap : cap' = n := hex rfl
 subst hcap
 have hsz := run_size (P := P) hee w
 have hu := run_und (P := P) hok w
 rw [hd] at hu
 refine ⟨.value (.slice (some ⟨q.1, q.2.1 + off, none⟩) 0 0), w, FM, ρ, _, ?_, rfl, ?_, ok, Goes.refl _ _ _ _ _⟩
 ·have hbd : (Instr.sliceBounds true cap' cap' (some (.int kd cap')) none none).run P w = .ok (cap', cap', cap') w := by
   have h := run_sliceBounds (P := P) (isSlice := true) (len := cap') (cap := cap') (lo := some (.int kd cap')) (hi := none) (mx := none) (lo' := some (cap' : Int)) (hi' := none) (mx' := none) (.inr ⟨kd, cap', rfl, rfl⟩) (.inl ⟨rfl, rfl⟩) (.inl ⟨rfl, rfl⟩) (fun m hm => by cases hm) (fun m hm => by cases hm) (fun l hl => by cases hl; simp [bH, bM]) (fun _ => rfl) w
   simpa [bL, bH, bM] using h
  simp [execOp, ho, hv, hl, Instr.sliceAt, Instr.slice, hu, hbd, hsz]
 ·exact ⟨fun _ => ⟨rfl, _, 0, rfl, rfl⟩, fun h => by cases h⟩
def isAggT (P : Program) (t s : Nat) : Bool := match tyOf P t with
 | some ti => ti.agg && Nat.beq ti.size s
 | none => false
theorem opOk_loadA {o : Oper} {ev : Operand → AV} {hp : List AObj} {g : R.σ} {t : TypeId} {p : Operand} {b off n s : Nat} {f : Bool} {get : Nat → AV} {v : AV} (ho : o.op = .load t p) (hp0 : ev p = .ref b off) (h1 : isAggT P t s = true) (hg : getO hp b = .cells f n get) (hn : off + s ≤ n) (hv : Le (.agg s (fun j => get (j + off))) v) :
  OpOk P R o ev hp g v hp g := by
 obtain ⟨ti, e1, e2, e3⟩ : ∃ ti, tyOf P t = some ti ∧ ti.agg = true ∧ ti.size = s := by
  unfold isAggT at h1
  split at h1
  ·rename_i ti hti
   simp only [Bool.and_eq_true] at h1
   exact ⟨ti, hti, h1.1, Nat.eq_of_beq_eq_true h1.2⟩
  ·cases h1
 refine opOk_le (out := ⟨bif isStrOp (tyOf P) (.load t p) then canonV (mkvO ti.agg ti.size off get) else mkvO ti.agg ti.size off get, hp, [off + ti.size ≤ n], .load b⟩) ?_ ⟨by rw [e3]; exact hn, trivial⟩ ?_
 ·rw [ho]
  simp only [runPure, runPure0, e1, hp0, hg, e2, e3]
  rfl
 ·have hm : mkvO ti.agg ti.size off get = .agg s (fun j => get (j + off)) := by rw [e2, e3]; rfl
  rw [hm]
  intro FM ρ w hw
  refine hv FM ρ w ?_
  cases hb : isStrOp (tyOf P) (.load t p) with
  | false => rw [hb] at hw; exact hw
  | true => rw [hb] at hw; exact le_canon _ FM ρ w hw
theorem wp_or {nt k0 : Nat} {r : Rd} {b : Code} {p : List Nat} {Q : AEx → St R.σ → Prop} {fr fr1 fr2 : List (Nat × AV)} {hp : List AObj} {g : R.σ} (h : ∀ (FM : Mem) (ρ : Plc) (vals : Nat → Value), FrOk FM ρ fr vals → FrOk FM ρ fr1 vals ∨ FrOk FM ρ fr2 vals)
  (h1 : Wp P R nt k0 r b p Q ⟨fr1, hp, g⟩) (h2 : Wp P R nt k0 r b p Q ⟨fr2, hp, g⟩) : Wp P R nt k0 r b p Q ⟨fr, hp, g⟩ := by
 refine ⟨fun C hC n a w ⟨FM, ρ, hs⟩ => ?_⟩
 rcases h FM ρ _ hs.fr with hf | hf
 ·exact h1.h C hC n a w ⟨FM, ρ, ⟨hs.ok, hs.goes, hs.size, hs.defs, hf⟩⟩
 ·exact h2.h C hC n a w ⟨FM, ρ, ⟨hs.ok, hs.goes, hs.size, hs.defs, hf⟩⟩
theorem wp_cap {nt k0 : Nat} {r : Rd} {b : Code} {p : List Nat} {Q : AEx → St R.σ → Prop} {fr : List (Nat × AV)} {hp : List AObj} {g : R.σ} (t o off n es : Nat) (ht : lk fr t = .sl o off n n false es)
  (h1 : Wp P R nt k0 r b p Q ⟨(t, .sl o off n n true es) :: fr, hp, g⟩) (h2 : Wp P R nt k0 r b p Q ⟨(t, .sl o off n (n + 1) false es) :: fr, hp, g⟩) : Wp P R nt k0 r b p Q ⟨fr, hp, g⟩ := by
 refine wp_or (fun FM ρ vals hf => ?_) h1 h2
 have hv := hf t
 rw [ht] at hv
 obtain ⟨q, cap', hq, hv, hc, _, hfit⟩ := hv
 rcases Nat.lt_or_ge n cap' with h | h
 ·refine .inr (fun t' => ?_)
  show Den FM ρ (bif Nat.beq t' t then _ else lk fr t') (vals t')
  cases hb : Nat.beq t' t with
  | true =>
    have := Nat.eq_of_beq_eq_true hb
    subst this
    exact ⟨q, cap', hq, hv, h, fun h => (by cases h), hfit⟩
  | false => exact hf t'
 ·have : cap' = n := by omega
  subst this
  refine .inl (fun t' => ?_)
  show Den FM ρ (bif Nat.beq t' t then _ else lk fr t') (vals t')
  cases hb : Nat.beq t' t with
  | true =>
    have := Nat.eq_of_beq_eq_true hb
    subst this
    exact ⟨q, cap', hq, hv, Nat.le_refl _, fun _ => rfl, hfit⟩
  | false => exact hf t'
theorem wp_room {nt k0 : Nat} {r : Rd} {b : Code} {p : List Nat} {Q : AEx → St R.σ → Prop} {fr : List (Nat × AV)} {hp : List AObj} {g : R.σ} (t : Nat) {o off n es : Nat} (ht : lk fr t = .sl o off n n false es) (hn : 0 < n)
  (h1 : n = 1 → Wp P R nt k0 r b p Q ⟨(t, .sl o off 1 1 true es) :: fr, hp, g⟩) (h2 : ∀ c, n ≤ c → 2 ≤ c → Wp P R nt k0 r b p Q ⟨(t, .sl o off n c false es) :: fr, hp, g⟩) : Wp P R nt k0 r b p Q ⟨fr, hp, g⟩ := by
 rcases Nat.lt_or_ge n 2 with h | h
 ·have : n = 1 := by omega
  subst this
  exact wp_cap t o off 1 es ht (h1 rfl) (h2 2 (by omega) (by omega))
 ·refine wp_to (s' := ⟨(t, .sl o off n n false es) :: fr, hp, g⟩) (fun ρ0 FM ρ w vals h0 hs ok hf => ⟨FM, ρ, ok, fun t' => ?_, hs, fun _ _ h => h, fun _ _ h => .inl h, fun _ h => h, rfl⟩) (h2 n (Nat.le_refl _) h)
  show Den FM ρ (bif Nat.beq t' t then _ else lk fr t') (vals t')
  cases hb : Nat.beq t' t with
  | true =>
    have := Nat.eq_of_beq_eq_true hb
    subst this
    rw [← ht]
    exact hf t'
  | false => exact hf t'
theorem Le.ow_sl {x : Bool} {o n es : Nat} (h : n ≠ 0) : Le (.ow x o n es) (.sl o 0 n n false es) := by
 intro FM ρ v hv
 obtain ⟨p, cap', h1, h2, h3, h4⟩ := hv.2 h
 exact ⟨p, cap', h1, h2, h3, fun h => (by cases h), by omega⟩
theorem Le.ow_may {x : Bool} {o es : Nat} {f : Nat → Nat → AV} : Le (.ow x o 0 es) (.fz .may es 0 f) := by
 intro FM ρ v hv
 obtain ⟨a, h1, h2⟩ := hv.1 rfl
 exact ⟨fun _ => ⟨rfl, a, 0, h1, fun _ => rfl⟩, fun h => by cases h⟩
theorem Le.sl_may {o off cap es : Nat} {ex : Bool} {f : Nat → Nat → AV} : Le (.sl o off 0 cap ex es) (.fz .may es 0 f) := by
 intro FM ρ v hv
 obtain ⟨p, cap', h1, h2, h3, h4⟩ := hv
 exact ⟨fun _ => ⟨rfl, _, cap', h2, fun h => by cases h⟩, fun h => by cases h⟩
end
end Go.Avm
namespace Go.Avm.Pack
open Go Go.Avm Go.Proofs
open Go.IntKind (i64 u64)
open Go.Avm.AV (int bool any fz fp sl ow ref fn ifc val agg tup)
open Go.Avm.AObj (cells dead)
open Go.Avm.Oc (ret)
set_option maxRecDepth 4000
structure Rng where
 pack : Int
 low : Int
 high : Int
 deriving Inhabited, DecidableEq
instance : Inhabited Fz := ⟨.nil⟩
structure KL (α : Type) where
 l : List α
 k : Fz
 deriving Inhabited
structure Rel where
 needs : KL Rng
 bars : KL Rng
 deriving Inhabited
abbrev Ix := KL (KL Rel)
def rngC (r : Rng) : Nat → AV := nth [.int .i64 r.pack, .int .i64 r.low, .int .i64 r.high]
def encRng (r : Rng) : AV := .agg 3 (nth [.int .i64 r.pack, .int .i64 r.low, .int .i64 r.high])
def encR (x : KL Rng) : AV := .fz x.k 3 x.l.length (fun i => rngC (x.l.getD i default))
def encI (x : KL Int) : AV := .fz x.k 1 x.l.length (fun i _ => .int .i64 (x.l.getD i 0))
def relC (r : Rel) : Nat → AV := nth [encR r.needs, encR r.bars]
def encRel (r : Rel) : AV := .agg 2 (nth [encR r.needs, encR r.bars])
def encRels (x : KL Rel) : AV := .fz x.k 2 x.l.length (fun i => relC (x.l.getD i default))
def encPacks (x : Ix) : AV := .fz x.k 1 x.l.length (fun i _ => encRels (x.l.getD i default))
def encIx (x : Ix) : AV := .agg 1 (nth [encPacks x])
def encMkt (x : Ix) (gl : KL Rng) : AV := .agg 2 (nth [encPacks x, encR gl])
def encPlan (p : Nat → Int) : AV := .agg 8 (fun j => .int .i64 (p j))
structure Clause where
 pack : Int
 rel : Int
 bar : Bool
 which : Int
 deriving Inhabited, DecidableEq
def clC (c : Clause) : Nat → AV := nth [.int .i64 c.pack, .int .i64 c.rel, .bool c.bar, .int .i64 c.which]
def encCl (c : Clause) : AV := .agg 4 (nth [.int .i64 c.pack, .int .i64 c.rel, .bool c.bar, .int .i64 c.which])
def encC (x : KL Clause) : AV := .fz x.k 4 x.l.length (fun i => clC (x.l.getD i default))
theorem below_encRng (r : Rng) : Below 0 (encRng r) := ⟨⟨⟨trivial, trivial⟩, trivial⟩, trivial⟩
theorem below_encCl (r : Clause) : Below 0 (encCl r) := ⟨⟨⟨⟨trivial, trivial⟩, trivial⟩, trivial⟩, trivial⟩
theorem below_encRel (r : Rel) : Below 0 (encRel r) := ⟨⟨trivial, trivial⟩, trivial⟩
theorem c_within (R : Res) (n lo hi : Int) (hp : List AObj) (g : R.σ) : Does Tryd.prog R 41 [.int .i64 n, .int .i64 lo, .int .i64 hi] hp g (.ret (.bool (decide (lo ≤ n ∧ n ≤ hi)))) hp g := by
 refine does_any' (fun R g => ?_) (by exact ⟨trivial, ⟨trivial, ⟨trivial, trivial⟩⟩⟩) R hp g
 refine spec_of_wp (nt := 15) (rs := [.tmp 6]) (k0 := 0) (by kernel_rfl) (by kernel_rfl) (by kernel_rfl) rfl ?_
 refine vcQ [] (lkL [(0, [0, 1, 2]), (1, [6])]) (fun _ => []) (fun Q => Q AEx.ret (St.mk [(6, AV.bool (bif decide (n ≥ lo) then decide (n ≤ hi) else false))] [] g)) (fun _ => by kernel_rfl) (?_)
 refine (retQ_le (retQ_same' _ _ rfl trivial rfl rfl rfl) (Le.of_eq ?_))
 show (AV.bool (bif decide (n ≥ lo) then decide (n ≤ hi) else false)) = _
 show AV.bool _ = _
 by_cases h : lo ≤ n <;> simp [h]
theorem c_in (R : Res) (n lo hi : Int) (hp : List AObj) (g : R.σ) : Does Tryd.prog R 44 [.int .i64 n, .int .i64 lo, .int .i64 hi] hp g (.ret (.bool (decide (lo ≤ n ∧ n ≤ hi)))) hp g := by
 refine does_any' (fun R g => ?_) (by exact ⟨trivial, ⟨trivial, ⟨trivial, trivial⟩⟩⟩) R hp g
 refine spec_of_wp (nt := 15) (rs := [.tmp 6]) (k0 := 0) (by kernel_rfl) (by kernel_rfl) (by kernel_rfl) rfl ?_
 refine vcQ [] (lkL [(0, [0, 1, 2]), (1, [6])]) (fun _ => []) (fun Q => Q AEx.ret (St.mk [(6, AV.bool (bif decide (n ≥ lo) then decide (n ≤ hi) else false))] [] g)) (fun _ => by kernel_rfl) (?_)
 refine (retQ_le (retQ_same' _ _ rfl trivial rfl rfl rfl) (Le.of_eq ?_))
 show (AV.bool (bif decide (n ≥ lo) then decide (n ≤ hi) else false)) = _
 show AV.bool _ = _
 by_cases h : lo ≤ n <;> simp [h]
end Go.Avm.Pack
namespace Go.Avm.Pack
open Go Go.Avm Go.Proofs
open Go.IntKind (i64 u64)
open Go.Avm.AV (int bool any fz fp sl ow ref fn ifc val agg tup)
open Go.Avm.AObj (cells dead)
open Go.Avm.Oc (ret)
set_option maxRecDepth 4000
def idxFrom {α : Type} (q : α → Bool) : List α → Nat → Int
 | [], _ => -1
 | x :: r, i => if q x then i else idxFrom q r (i + 1)
theorem idxFrom_any {α : Type} (q : α → Bool) : ∀ (l : List α) (i : Nat), decide (idxFrom q l i ≥ 0) = l.any q := by
 intro l
 induction l with
 | nil => intro i; simp [idxFrom]
 | cons x r ih =>
   intro i
   unfold idxFrom
   cases hq : q x with
   | true => simp [hq]
   | false => simp only [List.any_cons, hq, Bool.false_or]; exact ih (i + 1)
theorem getD_drop {α : Type} (l : List α) (d : α) {i : Nat} (h : i < l.length) : l.drop i = l.getD i d :: l.drop (i + 1) := by
 rw [List.drop_eq_getElem_cons h]
 simp [List.getD, h]
theorem getD_mem {α : Type} (l : List α) (d : α) {i : Nat} (h : i < l.length) : l.getD i d ∈ l := by
 simp [List.getD, h]
theorem c_IndexFunc_PackRange (R : Res) (l : KL Rng) (u : Value) (q : Rng → Bool) (g : R.σ) (hl : l.l.length < 1000000)
  (hu : ∀ r, r ∈ l.l → ∀ hp, VDoes Tryd.prog R u [encRng r] hp g (.ret (.bool (q r))) hp g) :
  Does Tryd.prog R 65 [encR l, .val u] [] g (.ret (.int .i64 (idxFrom q l.l 0))) [] g := by
 refine spec_of_wp (nt := 19) (rs := [.tmp 4]) (k0 := 0) (by kernel_rfl) (by kernel_rfl) (by kernel_rfl) rfl ?_
 refine vcQ [] (lkL [(0, [0, 1]), (1, [0, 1, 7, 8])]) (fun _ => []) (fun Q => Wp Tryd.prog R 19 0 Rd.top (bodyOf Tryd.prog 65) [1, 0, 1, 0] (contQ Tryd.prog R 19 0 Rd.top (bodyOf Tryd.prog 65) Q [Kont.blk 0, Kont.seq [1, 1]]) (St.mk [(0, encR l), (1, val u), (7, int i64 (l.l.length : Int)), (8, int i64 0)] [] g)) (fun _ => by kernel_rfl) (?_)
 refine (wp_loop (by kernel_rfl) (fun (i : Nat) => ⟨[(0, encR l), (1, val u), (7, int i64 (l.l.length : Int)), (8, .int .i64 (i : Int))], [], g⟩) (fun (i : Nat) => (i ≤ l.l.length ∧ idxFrom q l.l 0 = idxFrom q (l.l.drop i) i)) (fun (i : Nat) => (l.l.length - i)) 0 (to_fr ⟨(Le.refl _), ⟨(Le.refl _), ⟨(Le.refl _), ⟨(Le.of_eq (by kernel_rfl)), trivial⟩⟩⟩⟩ rfl rfl) ?_ (fun i hi => ?_))
 ·exact ⟨Nat.zero_le _, rfl⟩
 ·obtain ⟨h1, h2⟩ := hi
  refine vcQ [] (lkL [(2, [0, 1, 7, 8, 9]), (3, [0, 1, 5, 7, 8]), (4, [0, 1, 5, 7, 8, 16]), (5, [4]), (6, [0, 1, 7, 8])]) (lkL [(4, [(5, ROrc.kcall (AV.bool (q (l.l.getD i default))))])]) (fun Q => (fun (u1 : Int) => (fun (u2 : Int) => (fun (u3 : Rng) => (decide (u2 < u1) = true → (0 ≤ u2 ∧ u2 < u1) ∧ 3 ≤ 3 ∧ VDoes Tryd.prog R u [encRng u3] [] g (ret (AV.bool (q u3))) [] g ∧ (q u3 = true → Q AEx.ret (St.mk [(4, int i64 u2)] [] g)) ∧ (q u3 = false → (-9223372036854775808 ≤ u2 + 1 ∧ u2 + 1 ≤ 9223372036854775807) ∧ Q AEx.normal (St.mk [(0, encR l), (1, val u), (7, int i64 u1), (8, int i64 (u2 + 1))] [] g))) ∧ (decide (u2 < u1) = false → Q (AEx.exit 0) (St.mk [(0, encR l), (1, val u), (7, int i64 u1), (8, int i64 u2), (9, AV.bool (decide (u2 < u1)))] [] g))) (l.l.getD i default)) ((i : Int))) ((l.l.length : Int))) (fun _ => by kernel_rfl) ⟨fun c1 => have c1 : (i : Int) < (l.l.length : Int) := (of_decide_eq_true c1); ⟨(by omega), ⟨(by omega), ⟨(hu _ ?_ _), ⟨fun c2 => ?_, fun c2 => ⟨(by omega), ?_⟩⟩⟩⟩⟩, fun c1 => have c1 : ¬(i : Int) < (l.l.length : Int) := (of_decide_eq_false c1); ?_⟩
  ·exact getD_mem l.l default (by omega)
  ·refine ⟨_, To.refl _, (retQ_le (retQ_same' _ _ rfl trivial rfl rfl rfl) (Le.of_eq ?_))⟩
   show (int i64 (↑i : Int)) = _
   show AV.int _ _ = AV.int _ _
   rw [h2, getD_drop l.l default (by omega)]; unfold idxFrom; rw [if_pos c2]
  ·refine (next_round (i + 1) (to_fr ⟨(Le.refl _), ⟨(Le.refl _), ⟨(Le.refl _), ⟨(Le.of_eq (by kernel_rfl)), trivial⟩⟩⟩⟩ rfl rfl) ?_ ?_)
   ·refine ⟨by omega, ?_⟩
    rw [h2, getD_drop l.l default (by omega)]; conv => lhs; unfold idxFrom
    rw [c2]; rfl
   ·omega
  ·refine ⟨_, To.refl _, vcQ [] (lkL [(7, [4])]) (fun _ => []) (fun Q => Q AEx.ret (St.mk [(4, int i64 (-1))] [] g)) (fun _ => by kernel_rfl) (?_)⟩
   refine (retQ_le (retQ_same' _ _ rfl trivial rfl rfl rfl) (Le.of_eq ?_))
   show (int i64 (-1)) = _
   show AV.int _ _ = AV.int _ _
   rw [h2, List.drop_eq_nil_of_le (by omega)]; rfl
theorem c_ContainsFunc_PackRange (R : Res) (l : KL Rng) (u : Value) (q : Rng → Bool) (g : R.σ) (hl : l.l.length < 1000000)
  (hu : ∀ r, r ∈ l.l → ∀ hp, VDoes Tryd.prog R u [encRng r] hp g (.ret (.bool (q r))) hp g) :
  Does Tryd.prog R 24 [encR l, .val u] [] g (.ret (.bool (l.l.any q))) [] g := by
 refine spec_of_wp (nt := 9) (rs := [.tmp 4]) (k0 := 0) (by kernel_rfl) (by kernel_rfl) (by kernel_rfl) rfl ?_
 refine vcQ [] (lkL [(0, [0, 1]), (1, [4])]) (lkL [(1, [(2, ROrc.kcall (int i64 (idxFrom q l.l 0)))])]) (fun Q => (true = true ∧ Does Tryd.prog R 65 [encR l, val u] [] g (ret (int i64 (idxFrom q l.l 0))) [] g) ∧ Q AEx.ret (St.mk [(4, AV.bool (decide (idxFrom q l.l 0 ≥ 0)))] [] g)) (fun _ => by kernel_rfl) ⟨⟨rfl, (Go.Avm.Pack.c_IndexFunc_PackRange _ _ _ _ _ (by omega) (fun _ _ _ => hu _ (by omega) _))⟩, ?_⟩
 refine (retQ_le (retQ_same' _ _ rfl trivial rfl rfl rfl) (Le.of_eq ?_))
 show (AV.bool (decide (idxFrom q l.l 0 ≥ 0))) = _
 show AV.bool _ = AV.bool _
 rw [idxFrom_any]
theorem c_ContainsFuncF_PackRange (R : Res) (l : KL Rng) (f na nb : Nat) (a b : Nat → AV) (q : Rng → Bool) (hp : List AObj) (g : R.σ) (hl : l.l.length < 1000000) (hpl : isPlain Tryd.prog f = true)
  (h : ∀ r, r ∈ l.l → Does Tryd.prog R f (tab na 0 a ++ [encRng r] ++ tab nb 0 b) hp g (.ret (.bool (q r))) hp g) :
  Does Tryd.prog R 24 [encR l, .fn f na a nb b] hp g (.ret (.bool (l.l.any q))) hp g :=
 does_fn (pre := [encR l]) (D := fun r => r ∈ l.l) (args := fun r => [encRng r]) (oc1 := fun r => .ret (.bool (q r))) ⟨trivial, trivial⟩ hpl (fun r => ⟨below_encRng r, trivial⟩) (fun _ => trivial) h
  (fun R' g' u hu => c_ContainsFunc_PackRange R' l u q g' hl hu)
theorem c_IndexFunc_PackRelease (R : Res) (l : KL Rel) (u : Value) (q : Rel → Bool) (g : R.σ) (hl : l.l.length < 1000000)
  (hu : ∀ r, r ∈ l.l → ∀ hp, VDoes Tryd.prog R u [encRel r] hp g (.ret (.bool (q r))) hp g) :
  Does Tryd.prog R 104 [encRels l, .val u] [] g (.ret (.int .i64 (idxFrom q l.l 0))) [] g := by
 refine spec_of_wp (nt := 19) (rs := [.tmp 4]) (k0 := 0) (by kernel_rfl) (by kernel_rfl) (by kernel_rfl) rfl ?_
 refine vcQ [] (lkL [(0, [0, 1]), (1, [0, 1, 7, 8])]) (fun _ => []) (fun Q => Wp Tryd.prog R 19 0 Rd.top (bodyOf Tryd.prog 104) [1, 0, 1, 0] (contQ Tryd.prog R 19 0 Rd.top (bodyOf Tryd.prog 104) Q [Kont.blk 0, Kont.seq [1, 1]]) (St.mk [(0, encRels l), (1, val u), (7, int i64 (l.l.length : Int)), (8, int i64 0)] [] g)) (fun _ => by kernel_rfl) (?_)
 refine (wp_loop (by kernel_rfl) (fun (i : Nat) => ⟨[(0, encRels l), (1, val u), (7, int i64 (l.l.length : Int)), (8, .int .i64 (i : Int))], [], g⟩) (fun (i : Nat) => (i ≤ l.l.length ∧ idxFrom q l.l 0 = idxFrom q (l.l.drop i) i)) (fun (i : Nat) => (l.l.length - i)) 0 (to_fr ⟨(Le.refl _), ⟨(Le.refl _), ⟨(Le.refl _), ⟨(Le.of_eq (by kernel_rfl)), trivial⟩⟩⟩⟩ rfl rfl) ?_ (fun i hi => ?_))
 ·exact ⟨Nat.zero_le _, rfl⟩
 ·obtain ⟨h1, h2⟩ := hi
  refine vcQ [] (lkL [(2, [0, 1, 7, 8, 9]), (3, [0, 1, 5, 7, 8]), (4, [0, 1, 5, 7, 8, 16]), (5, [4]), (6, [0, 1, 7, 8])]) (lkL [(4, [(5, ROrc.kcall (AV.bool (q (l.l.getD i default))))])]) (fun Q => (fun (u1 : Int) => (fun (u2 : Int) => (fun (u3 : Rel) => (decide (u2 < u1) = true → (0 ≤ u2 ∧ u2 < u1) ∧ 2 ≤ 2 ∧ VDoes Tryd.prog R u [encRel u3] [] g (ret (AV.bool (q u3))) [] g ∧ (q u3 = true → Q AEx.ret (St.mk [(4, int i64 u2)] [] g)) ∧ (q u3 = false → (-9223372036854775808 ≤ u2 + 1 ∧ u2 + 1 ≤ 9223372036854775807) ∧ Q AEx.normal (St.mk [(0, encRels l), (1, val u), (7, int i64 u1), (8, int i64 (u2 + 1))] [] g))) ∧ (decide (u2 < u1) = false → Q (AEx.exit 0) (St.mk [(0, encRels l), (1, val u), (7, int i64 u1), (8, int i64 u2), (9, AV.bool (decide (u2 < u1)))] [] g))) (l.l.getD i default)) ((i : Int))) ((l.l.length : Int))) (fun _ => by kernel_rfl) ⟨fun c1 => have c1 : (i : Int) < (l.l.length : Int) := (of_decide_eq_true c1); ⟨(by omega), ⟨(by omega), ⟨(hu _ ?_ _), ⟨fun c2 => ?_, fun c2 => ⟨(by omega), ?_⟩⟩⟩⟩⟩, fun c1 => have c1 : ¬(i : Int) < (l.l.length : Int) := (of_decide_eq_false c1); ?_⟩
  ·exact getD_mem l.l default (by omega)
  ·refine ⟨_, To.refl _, (retQ_le (retQ_same' _ _ rfl trivial rfl rfl rfl) (Le.of_eq ?_))⟩
   show (int i64 (↑i : Int)) = _
   show AV.int _ _ = AV.int _ _
   rw [h2, getD_drop l.l default (by omega)]; unfold idxFrom; rw [if_pos c2]
  ·refine (next_round (i + 1) (to_fr ⟨(Le.refl _), ⟨(Le.refl _), ⟨(Le.refl _), ⟨(Le.of_eq (by kernel_rfl)), trivial⟩⟩⟩⟩ rfl rfl) ?_ ?_)
   ·refine ⟨by omega, ?_⟩
    rw [h2, getD_drop l.l default (by omega)]; conv => lhs; unfold idxFrom
    rw [c2]; rfl
   ·omega
  ·refine ⟨_, To.refl _, vcQ [] (lkL [(7, [4])]) (fun _ => []) (fun Q => Q AEx.ret (St.mk [(4, int i64 (-1))] [] g)) (fun _ => by kernel_rfl) (?_)⟩
   refine (retQ_le (retQ_same' _ _ rfl trivial rfl rfl rfl) (Le.of_eq ?_))
   show (int i64 (-1)) = _
   show AV.int _ _ = AV.int _ _
   rw [h2, List.drop_eq_nil_of_le (by omega)]; rfl
theorem c_ContainsFunc_PackRelease (R : Res) (l : KL Rel) (u : Value) (q : Rel → Bool) (g : R.σ) (hl : l.l.length < 1000000)
  (hu : ∀ r, r ∈ l.l → ∀ hp, VDoes Tryd.prog R u [encRel r] hp g (.ret (.bool (q r))) hp g) :
  Does Tryd.prog R 93 [encRels l, .val u] [] g (.ret (.bool (l.l.any q))) [] g := by
 refine spec_of_wp (nt := 9) (rs := [.tmp 4]) (k0 := 0) (by kernel_rfl) (by kernel_rfl) (by kernel_rfl) rfl ?_
 refine vcQ [] (lkL [(0, [0, 1]), (1, [4])]) (lkL [(1, [(2, ROrc.kcall (int i64 (idxFrom q l.l 0)))])]) (fun Q => (true = true ∧ Does Tryd.prog R 104 [encRels l, val u] [] g (ret (int i64 (idxFrom q l.l 0))) [] g) ∧ Q AEx.ret (St.mk [(4, AV.bool (decide (idxFrom q l.l 0 ≥ 0)))] [] g)) (fun _ => by kernel_rfl) ⟨⟨rfl, (Go.Avm.Pack.c_IndexFunc_PackRelease _ _ _ _ _ (by omega) (fun _ _ _ => hu _ (by omega) _))⟩, ?_⟩
 refine (retQ_le (retQ_same' _ _ rfl trivial rfl rfl rfl) (Le.of_eq ?_))
 show (AV.bool (decide (idxFrom q l.l 0 ≥ 0))) = _
 show AV.bool _ = AV.bool _
 rw [idxFrom_any]
theorem c_ContainsFuncF_PackRelease (R : Res) (l : KL Rel) (f na nb : Nat) (a b : Nat → AV) (q : Rel → Bool) (hp : List AObj) (g : R.σ) (hl : l.l.length < 1000000) (hpl : isPlain Tryd.prog f = true)
  (h : ∀ r, r ∈ l.l → Does Tryd.prog R f (tab na 0 a ++ [encRel r] ++ tab nb 0 b) hp g (.ret (.bool (q r))) hp g) :
  Does Tryd.prog R 93 [encRels l, .fn f na a nb b] hp g (.ret (.bool (l.l.any q))) hp g :=
 does_fn (pre := [encRels l]) (D := fun r => r ∈ l.l) (args := fun r => [encRel r]) (oc1 := fun r => .ret (.bool (q r))) ⟨trivial, trivial⟩ hpl (fun r => ⟨below_encRel r, trivial⟩) (fun _ => trivial) h
  (fun R' g' u hu => c_ContainsFunc_PackRelease R' l u q g' hl hu)
theorem c_IndexFunc_PackClause (R : Res) (l : KL Clause) (u : Value) (q : Clause → Bool) (g : R.σ) (hl : l.l.length < 1000000)
  (hu : ∀ r, r ∈ l.l → ∀ hp, VDoes Tryd.prog R u [encCl r] hp g (.ret (.bool (q r))) hp g) :
  Does Tryd.prog R 100 [encC l, .val u] [] g (.ret (.int .i64 (idxFrom q l.l 0))) [] g := by
 refine spec_of_wp (nt := 19) (rs := [.tmp 4]) (k0 := 0) (by kernel_rfl) (by kernel_rfl) (by kernel_rfl) rfl ?_
 refine vcQ [] (lkL [(0, [0, 1]), (1, [0, 1, 7, 8])]) (fun _ => []) (fun Q => Wp Tryd.prog R 19 0 Rd.top (bodyOf Tryd.prog 100) [1, 0, 1, 0] (contQ Tryd.prog R 19 0 Rd.top (bodyOf Tryd.prog 100) Q [Kont.blk 0, Kont.seq [1, 1]]) (St.mk [(0, encC l), (1, val u), (7, int i64 (l.l.length : Int)), (8, int i64 0)] [] g)) (fun _ => by kernel_rfl) (?_)
 refine (wp_loop (by kernel_rfl) (fun (i : Nat) => ⟨[(0, encC l), (1, val u), (7, int i64 (l.l.length : Int)), (8, .int .i64 (i : Int))], [], g⟩) (fun (i : Nat) => (i ≤ l.l.length ∧ idxFrom q l.l 0 = idxFrom q (l.l.drop i) i)) (fun (i : Nat) => (l.l.length - i)) 0 (to_fr ⟨(Le.refl _), ⟨(Le.refl _), ⟨(Le.refl _), ⟨(Le.of_eq (by kernel_rfl)), trivial⟩⟩⟩⟩ rfl rfl) ?_ (fun i hi => ?_))
 ·exact ⟨Nat.zero_le _, rfl⟩
 ·obtain ⟨h1, h2⟩ := hi
  refine vcQ [] (lkL [(2, [0, 1, 7, 8, 9]), (3, [0, 1, 5, 7, 8]), (4, [0, 1, 5, 7, 8, 16]), (5, [4]), (6, [0, 1, 7, 8])]) (lkL [(4, [(5, ROrc.kcall (AV.bool (q (l.l.getD i default))))])]) (fun Q => (fun (u1 : Int) => (fun (u2 : Int) => (fun (u3 : Clause) => (decide (u2 < u1) = true → (0 ≤ u2 ∧ u2 < u1) ∧ 4 ≤ 4 ∧ VDoes Tryd.prog R u [encCl u3] [] g (ret (AV.bool (q u3))) [] g ∧ (q u3 = true → Q AEx.ret (St.mk [(4, int i64 u2)] [] g)) ∧ (q u3 = false → (-9223372036854775808 ≤ u2 + 1 ∧ u2 + 1 ≤ 9223372036854775807) ∧ Q AEx.normal (St.mk [(0, encC l), (1, val u), (7, int i64 u1), (8, int i64 (u2 + 1))] [] g))) ∧ (decide (u2 < u1) = false → Q (AEx.exit 0) (St.mk [(0, encC l), (1, val u), (7, int i64 u1), (8, int i64 u2), (9, AV.bool (decide (u2 < u1)))] [] g))) (l.l.getD i default)) ((i : Int))) ((l.l.length : Int))) (fun _ => by kernel_rfl) ⟨fun c1 => have c1 : (i : Int) < (l.l.length : Int) := (of_decide_eq_true c1); ⟨(by omega), ⟨(by omega), ⟨(hu _ ?_ _), ⟨fun c2 => ?_, fun c2 => ⟨(by omega), ?_⟩⟩⟩⟩⟩, fun c1 => have c1 : ¬(i : Int) < (l.l.length : Int) := (of_decide_eq_false c1); ?_⟩
  ·exact getD_mem l.l default (by omega)
  ·refine ⟨_, To.refl _, (retQ_le (retQ_same' _ _ rfl trivial rfl rfl rfl) (Le.of_eq ?_))⟩
   show (int i64 (↑i : Int)) = _
   show AV.int _ _ = AV.int _ _
   rw [h2, getD_drop l.l default (by omega)]; unfold idxFrom; rw [if_pos c2]
  ·refine (next_round (i + 1) (to_fr ⟨(Le.refl _), ⟨(Le.refl _), ⟨(Le.refl _), ⟨(Le.of_eq (by kernel_rfl)), trivial⟩⟩⟩⟩ rfl rfl) ?_ ?_)
   ·refine ⟨by omega, ?_⟩
    rw [h2, getD_drop l.l default (by omega)]; conv => lhs; unfold idxFrom
    rw [c2]; rfl
   ·omega
  ·refine ⟨_, To.refl _, vcQ [] (lkL [(7, [4])]) (fun _ => []) (fun Q => Q AEx.ret (St.mk [(4, int i64 (-1))] [] g)) (fun _ => by kernel_rfl) (?_)⟩
   refine (retQ_le (retQ_same' _ _ rfl trivial rfl rfl rfl) (Le.of_eq ?_))
   show (int i64 (-1)) = _
   show AV.int _ _ = AV.int _ _
   rw [h2, List.drop_eq_nil_of_le (by omega)]; rfl
theorem c_ContainsFunc_PackClause (R : Res) (l : KL Clause) (u : Value) (q : Clause → Bool) (g : R.σ) (hl : l.l.length < 1000000)
  (hu : ∀ r, r ∈ l.l → ∀ hp, VDoes Tryd.prog R u [encCl r] hp g (.ret (.bool (q r))) hp g) :
  Does Tryd.prog R 85 [encC l, .val u] [] g (.ret (.bool (l.l.any q))) [] g := by
 refine spec_of_wp (nt := 9) (rs := [.tmp 4]) (k0 := 0) (by kernel_rfl) (by kernel_rfl) (by kernel_rfl) rfl ?_
 refine vcQ [] (lkL [(0, [0, 1]), (1, [4])]) (lkL [(1, [(2, ROrc.kcall (int i64 (idxFrom q l.l 0)))])]) (fun Q => (true = true ∧ Does Tryd.prog R 100 [encC l, val u] [] g (ret (int i64 (idxFrom q l.l 0))) [] g) ∧ Q AEx.ret (St.mk [(4, AV.bool (decide (idxFrom q l.l 0 ≥ 0)))] [] g)) (fun _ => by kernel_rfl) ⟨⟨rfl, (Go.Avm.Pack.c_IndexFunc_PackClause _ _ _ _ _ (by omega) (fun _ _ _ => hu _ (by omega) _))⟩, ?_⟩
 refine (retQ_le (retQ_same' _ _ rfl trivial rfl rfl rfl) (Le.of_eq ?_))
 show (AV.bool (decide (idxFrom q l.l 0 ≥ 0))) = _
 show AV.bool _ = AV.bool _
 rw [idxFrom_any]
theorem c_ContainsFuncF_PackClause (R : Res) (l : KL Clause) (f na nb : Nat) (a b : Nat → AV) (q : Clause → Bool) (hp : List AObj) (g : R.σ) (hl : l.l.length < 1000000) (hpl : isPlain Tryd.prog f = true)
  (h : ∀ r, r ∈ l.l → Does Tryd.prog R f (tab na 0 a ++ [encCl r] ++ tab nb 0 b) hp g (.ret (.bool (q r))) hp g) :
  Does Tryd.prog R 85 [encC l, .fn f na a nb b] hp g (.ret (.bool (l.l.any q))) hp g :=
 does_fn (pre := [encC l]) (D := fun r => r ∈ l.l) (args := fun r => [encCl r]) (oc1 := fun r => .ret (.bool (q r))) ⟨trivial, trivial⟩ hpl (fun r => ⟨below_encCl r, trivial⟩) (fun _ => trivial) h
  (fun R' g' u hu => c_ContainsFunc_PackClause R' l u q g' hl hu)
theorem c_every1_PackRange (R : Res) (r : Rng) (u : Value) (b : Bool) (g : R.σ) (hu : ∀ hp, VDoes Tryd.prog R u [encRng r] hp g (.ret (.bool b)) hp g) :
  Does Tryd.prog R 77 [encRng r, .ref 0 0] [.cells false 1 (fun _ => .val u)] g (.ret (.bool (!b))) [.cells false 1 (fun _ => .val u)] g := by
 refine spec_of_wp (nt := 8) (rs := [.tmp 3]) (k0 := 1) (by kernel_rfl) (by kernel_rfl) (by kernel_rfl) rfl ?_
 refine vcQ [] (lkL [(0, [1, 2]), (1, [3])]) (lkL [(1, [(2, ROrc.kcall (AV.bool b))])]) (fun Q => (fun (u1 : List AObj) => 1 ≤ 1 ∧ 3 ≤ 3 ∧ VDoes Tryd.prog R u [encRng r] u1 g (ret (AV.bool b)) u1 g ∧ Q AEx.ret (St.mk [(3, AV.bool !b)] u1 g)) ([cells false 1 fun (x : Nat) => val u, cells false 3 (nth [int i64 r.pack, int i64 r.low, int i64 r.high])])) (fun _ => by kernel_rfl) ⟨(by omega), ⟨(by omega), ⟨(hu _), ?_⟩⟩⟩
 refine (retQ_le (retQ_take' 1 _ _ rfl trivial (by omega) trivial ⟨(fun j hj => match j, hj with | 0, _ => trivial ), trivial⟩ (by kernel_rfl) rfl rfl) (Le.refl _))
theorem c_every_PackRange (R : Res) (l : KL Rng) (u : Value) (q : Rng → Bool) (g : R.σ) (hl : l.l.length < 1000000)
  (hu : ∀ r, r ∈ l.l → ∀ hp, VDoes Tryd.prog R u [encRng r] hp g (.ret (.bool (q r))) hp g) :
  Does Tryd.prog R 39 [encR l, .val u] [] g (.ret (.bool (l.l.all q))) [] g := by
 refine spec_of_wp (nt := 9) (rs := [.tmp 4]) (k0 := 0) (by kernel_rfl) (by kernel_rfl) (by kernel_rfl) rfl ?_
 refine vcQ [] (lkL [(0, [0, 3]), (1, [4])]) (lkL [(1, [(2, ROrc.kcall (AV.bool (List.any l.l fun (r : Rng) => !q r)))])]) (fun Q => (fun (u1 : AObj) => (true = true ∧ Does Tryd.prog R 24 [encR l, fn 77 0 (nth []) 1 (nth [ref 0 0])] [u1] g (ret (AV.bool (List.any l.l fun (r : Rng) => !q r))) [u1] g) ∧ Q AEx.ret (St.mk [(4, AV.bool !List.any l.l fun (r : Rng) => !q r)] [u1] g)) (cells false 1 fun (a : Nat) => val u)) (fun _ => by kernel_rfl) ⟨⟨rfl, (Go.Avm.Pack.c_ContainsFuncF_PackRange _ _ _ _ _ _ _ _ _ _ (by omega) (by kernel_rfl) (fun r _ => (Go.Avm.Pack.c_every1_PackRange _ _ _ _ _ (fun _ => hu _ (by omega) _))))⟩, ?_⟩
 refine (retQ_le (retQ_drop _ _ rfl trivial trivial rfl) (Le.of_eq ?_))
 show (AV.bool !List.any l.l fun (r : Rng) => !q r) = _
 show AV.bool _ = AV.bool _
 congr 1
 simp [List.all_eq_not_any_not]
theorem c_everyF_PackRange (R : Res) (l : KL Rng) (f na nb : Nat) (a b : Nat → AV) (q : Rng → Bool) (hp : List AObj) (g : R.σ) (hl : l.l.length < 1000000) (hpl : isPlain Tryd.prog f = true)
  (h : ∀ r, r ∈ l.l → Does Tryd.prog R f (tab na 0 a ++ [encRng r] ++ tab nb 0 b) hp g (.ret (.bool (q r))) hp g) :
  Does Tryd.prog R 39 [encR l, .fn f na a nb b] hp g (.ret (.bool (l.l.all q))) hp g :=
 does_fn (pre := [encR l]) (D := fun r => r ∈ l.l) (args := fun r => [encRng r]) (oc1 := fun r => .ret (.bool (q r))) ⟨trivial, trivial⟩ hpl (fun r => ⟨below_encRng r, trivial⟩) (fun _ => trivial) h
  (fun R' g' u hu => c_every_PackRange R' l u q g' hl hu)
theorem c_every1_PackRelease (R : Res) (r : Rel) (u : Value) (b : Bool) (g : R.σ) (hu : ∀ hp, VDoes Tryd.prog R u [encRel r] hp g (.ret (.bool b)) hp g) :
  Does Tryd.prog R 94 [encRel r, .ref 0 0] [.cells false 1 (fun _ => .val u)] g (.ret (.bool (!b))) [.cells false 1 (fun _ => .val u)] g := by
 refine spec_of_wp (nt := 8) (rs := [.tmp 3]) (k0 := 1) (by kernel_rfl) (by kernel_rfl) (by kernel_rfl) rfl ?_
 refine vcQ [] (lkL [(0, [1, 2]), (1, [3])]) (lkL [(1, [(2, ROrc.kcall (AV.bool b))])]) (fun Q => (fun (u1 : List AObj) => 1 ≤ 1 ∧ 2 ≤ 2 ∧ VDoes Tryd.prog R u [encRel r] u1 g (ret (AV.bool b)) u1 g ∧ Q AEx.ret (St.mk [(3, AV.bool !b)] u1 g)) ([cells false 1 fun (x : Nat) => val u, cells false 2 (nth [encR r.needs, encR r.bars])])) (fun _ => by kernel_rfl) ⟨(by omega), ⟨(by omega), ⟨(hu _), ?_⟩⟩⟩
 refine (retQ_le (retQ_take' 1 _ _ rfl trivial (by omega) trivial ⟨(fun j hj => match j, hj with | 0, _ => trivial ), trivial⟩ (by kernel_rfl) rfl rfl) (Le.refl _))
theorem c_every_PackRelease (R : Res) (l : KL Rel) (u : Value) (q : Rel → Bool) (g : R.σ) (hl : l.l.length < 1000000)
  (hu : ∀ r, r ∈ l.l → ∀ hp, VDoes Tryd.prog R u [encRel r] hp g (.ret (.bool (q r))) hp g) :
  Does Tryd.prog R 74 [encRels l, .val u] [] g (.ret (.bool (l.l.all q))) [] g := by
 refine spec_of_wp (nt := 9) (rs := [.tmp 4]) (k0 := 0) (by kernel_rfl) (by kernel_rfl) (by kernel_rfl) rfl ?_
 refine vcQ [] (lkL [(0, [0, 3]), (1, [4])]) (lkL [(1, [(2, ROrc.kcall (AV.bool (List.any l.l fun (r : Rel) => !q r)))])]) (fun Q => (fun (u1 : AObj) => (true = true ∧ Does Tryd.prog R 93 [encRels l, fn 94 0 (nth []) 1 (nth [ref 0 0])] [u1] g (ret (AV.bool (List.any l.l fun (r : Rel) => !q r))) [u1] g) ∧ Q AEx.ret (St.mk [(4, AV.bool !List.any l.l fun (r : Rel) => !q r)] [u1] g)) (cells false 1 fun (a : Nat) => val u)) (fun _ => by kernel_rfl) ⟨⟨rfl, (Go.Avm.Pack.c_ContainsFuncF_PackRelease _ _ _ _ _ _ _ _ _ _ (by omega) (by kernel_rfl) (fun r _ => (Go.Avm.Pack.c_every1_PackRelease _ _ _ _ _ (fun _ => hu _ (by omega) _))))⟩, ?_⟩
 refine (retQ_le (retQ_drop _ _ rfl trivial trivial rfl) (Le.of_eq ?_))
 show (AV.bool !List.any l.l fun (r : Rel) => !q r) = _
 show AV.bool _ = AV.bool _
 congr 1
 simp [List.all_eq_not_any_not]
theorem c_everyF_PackRelease (R : Res) (l : KL Rel) (f na nb : Nat) (a b : Nat → AV) (q : Rel → Bool) (hp : List AObj) (g : R.σ) (hl : l.l.length < 1000000) (hpl : isPlain Tryd.prog f = true)
  (h : ∀ r, r ∈ l.l → Does Tryd.prog R f (tab na 0 a ++ [encRel r] ++ tab nb 0 b) hp g (.ret (.bool (q r))) hp g) :
  Does Tryd.prog R 74 [encRels l, .fn f na a nb b] hp g (.ret (.bool (l.l.all q))) hp g :=
 does_fn (pre := [encRels l]) (D := fun r => r ∈ l.l) (args := fun r => [encRel r]) (oc1 := fun r => .ret (.bool (q r))) ⟨trivial, trivial⟩ hpl (fun r => ⟨below_encRel r, trivial⟩) (fun _ => trivial) h
  (fun R' g' u hu => c_every_PackRelease R' l u q g' hl hu)
end Go.Avm.Pack
namespace Go.Avm.Pack
open Go Go.Avm Go.Proofs
open Go.IntKind (i64 u64)
open Go.Avm.AV (int bool any fz fp sl ow ref fn ifc val agg tup)
open Go.Avm.AObj (cells dead)
open Go.Avm.Oc (ret)
set_option maxRecDepth 4000
def inR (n : Int) (r : Rng) : Bool := decide (r.low ≤ n ∧ n ≤ r.high)
theorem c_meets (R : Res) (p : Nat → Int) (r : Rng) (hp : List AObj) (g : R.σ) (h0 : 0 ≤ r.pack) (h1 : r.pack < 8) : Does Tryd.prog R 97 [encPlan p, encRng r] hp g (.ret (.bool (inR (p r.pack.toNat) r))) hp g := by
 refine does_any' (fun R g => ?_) (by exact ⟨⟨⟨⟨⟨⟨⟨⟨⟨trivial, trivial⟩, trivial⟩, trivial⟩, trivial⟩, trivial⟩, trivial⟩, trivial⟩, trivial⟩, ⟨⟨⟨⟨trivial, trivial⟩, trivial⟩, trivial⟩, trivial⟩⟩) R hp g
 refine spec_of_wp (nt := 14) (rs := [.tmp 4]) (k0 := 0) (by kernel_rfl) (by kernel_rfl) (by kernel_rfl) rfl ?_
 refine vcQ [] (lkL [(0, [2, 3]), (1, [4])]) (lkL [(1, [(8, ROrc.pcall (AV.bool (decide (r.low ≤ p (r.pack.toNat) ∧ p (r.pack.toNat) ≤ r.high))))])]) (fun Q => (fun (u1 : Int) => Tables.follows Tryd.prog.toTables Departure.mixedOrders = true ∧ 1 ≤ 3 ∧ (0 ≤ r.pack ∧ r.pack < (↑8 : Int)) ∧ r.pack.toNat + 1 ≤ 8 ∧ 2 ≤ 3 ∧ 3 ≤ 3 ∧ (∀ (hp : List AObj) (g : R.σ), true = true ∧ Does Tryd.prog R 41 [int i64 u1, int i64 r.low, int i64 r.high] hp g (ret (AV.bool (decide (r.low ≤ u1 ∧ u1 ≤ r.high)))) hp g) ∧ Q AEx.ret (St.mk [(4, AV.bool (decide (r.low ≤ u1 ∧ u1 ≤ r.high)))] [cells false 8 fun (a : Nat) => int i64 (p a), cells false 3 (nth [int i64 r.pack, int i64 r.low, int i64 r.high])] g)) (p (r.pack.toNat))) (fun _ => by kernel_rfl) ⟨(by kernel_rfl), ⟨(by omega), ⟨(by omega), ⟨(by omega), ⟨(by omega), ⟨(by omega), ⟨(fun _ _ => ⟨rfl, (Go.Avm.Pack.c_within _ _ _ _ _ _)⟩), ?_⟩⟩⟩⟩⟩⟩⟩
 refine (retQ_le (retQ_drop _ _ rfl trivial trivial rfl) (Le.of_eq (by kernel_rfl)))
def rels (x : Ix) (i : Int) : List Rel := (x.l.getD i.toNat default).l
def rangedB (x : Ix) (r : Rng) : Bool := decide (0 ≤ r.pack ∧ r.pack < x.l.length ∧ 0 ≤ r.low ∧ r.low ≤ r.high ∧ r.high < (rels x r.pack).length)
def small (x : Ix) : Prop := x.l.length < 1000000 ∧ ∀ i, (x.l.getD i default).l.length < 1000000
theorem c_ranged (R : Res) (x : Ix) (gl : KL Rng) (r : Rng) (hp : List AObj) (g : R.σ) (hs : small x) : Does Tryd.prog R 72 [encMkt x gl, encRng r] hp g (.ret (.bool (rangedB x r))) hp g := by
 have w1 := hs.1
 have w2 := hs.2 r.pack.toNat
 refine does_any' (fun R g => ?_) (by exact ⟨⟨⟨trivial, trivial⟩, trivial⟩, ⟨⟨⟨⟨trivial, trivial⟩, trivial⟩, trivial⟩, trivial⟩⟩) R hp g
 refine spec_of_wp (nt := 34) (rs := [.tmp 4]) (k0 := 0) (by kernel_rfl) (by kernel_rfl) (by kernel_rfl) rfl ?_
 refine vcQ [] (lkL [(0, [2, 3]), (1, [4])]) (lkL [(1, [(7, ROrc.pcall (AV.bool (decide (0 ≤ r.pack ∧ r.pack ≤ (x.l.length : Int) - 1)))), (27, ROrc.pcall (AV.bool (decide (r.low ≤ r.high ∧ r.high ≤ (↑((x.l.getD (r.pack.toNat) default).l.length) : Int) - 1))))])]) (fun Q => (fun (u1 : Int) => (fun (u2 : Bool) => (fun (u3 : Int) => Tables.follows Tryd.prog.toTables Departure.mixedOrders = true ∧ 1 ≤ 3 ∧ 1 ≤ 2 ∧ (-9223372036854775808 ≤ u1 ∧ u1 ≤ 9223372036854775807) ∧ (∀ (hp : List AObj) (g : R.σ), true = true ∧ Does Tryd.prog R 41 [int i64 r.pack, int i64 0, int i64 u1] hp g (ret (AV.bool (decide (0 ≤ r.pack ∧ r.pack ≤ u1)))) hp g) ∧ (decide (0 ≤ r.pack ∧ r.pack ≤ u1) = true → 2 ≤ 3) ∧ (u2 = true → 3 ≤ 3) ∧ (u2 = true → 2 ≤ 3) ∧ (u2 = true → 1 ≤ 2) ∧ (u2 = true → 1 ≤ 3) ∧ (u2 = true → 0 ≤ r.pack ∧ r.pack < (x.l.length : Int)) ∧ (u2 = true → 1 ≤ 1) ∧ (u2 = true → -9223372036854775808 ≤ u3 ∧ u3 ≤ 9223372036854775807) ∧ (u2 = true → ∀ (hp : List AObj) (g : R.σ), true = true ∧ Does Tryd.prog R 41 [int i64 r.high, int i64 r.low, int i64 u3] hp g (ret (AV.bool (decide (r.low ≤ r.high ∧ r.high ≤ u3)))) hp g) ∧ Q AEx.ret (St.mk [(4, AV.bool (bif u2 then decide (r.low ≤ r.high ∧ r.high ≤ u3) else false))] [cells false 2 (nth [encPacks x, encR gl]), cells false 3 (nth [int i64 r.pack, int i64 r.low, int i64 r.high])] g)) ((↑((x.l.getD (r.pack.toNat) default).l.length) : Int) - 1)) (bif decide (0 ≤ r.pack ∧ r.pack ≤ u1) then decide (r.low ≥ 0) else false)) ((x.l.length : Int) - 1)) (fun _ => by kernel_rfl) ⟨(by kernel_rfl), ⟨(by omega), ⟨(by omega), ⟨(by omega), ⟨(fun _ _ => ⟨rfl, (Go.Avm.Pack.c_within _ _ _ _ _ _)⟩), ⟨(by omega), ⟨(by omega), ⟨(by omega), ⟨(by omega), ⟨(by omega), ⟨(by intro h; simp at h <;> omega), ⟨(by omega), ⟨(by omega), ⟨(fun hgd => (fun _ _ => ⟨rfl, (Go.Avm.Pack.c_within _ _ _ _ _ _)⟩)), ?_⟩⟩⟩⟩⟩⟩⟩⟩⟩⟩⟩⟩⟩⟩
 refine (retQ_le (retQ_drop _ _ rfl trivial trivial rfl) (Le.of_eq ?_))
 show (AV.bool (bif bif decide (0 ≤ r.pack ∧ r.pack ≤ (↑(List.length x.l) : Int) - 1) then decide (r.low ≥ 0) else false then decide (r.low ≤ r.high ∧ r.high ≤ (↑(List.length (List.getD x.l (Int.toNat r.pack) default).l) : Int) - 1) else false)) = _
 show AV.bool _ = AV.bool _
 congr 1
 unfold rangedB rels
 rw [Bool.eq_iff_iff]
 simp
 omega
theorem c_Range (R : Res) (x : Ix) (r : Rng) (hp : List AObj) (g : R.σ) (hs : small x) : Does Tryd.prog R 80 [encIx x, encRng r] hp g (.ret (.bool (rangedB x r))) hp g := by
 have w1 := hs.1
 have w2 := hs.2 r.pack.toNat
 refine does_any' (fun R g => ?_) (by exact ⟨⟨trivial, trivial⟩, ⟨⟨⟨⟨trivial, trivial⟩, trivial⟩, trivial⟩, trivial⟩⟩) R hp g
 refine spec_of_wp (nt := 37) (rs := [.tmp 4]) (k0 := 0) (by kernel_rfl) (by kernel_rfl) (by kernel_rfl) rfl ?_
 refine vcQ [] (lkL [(0, [2, 3]), (1, [4])]) (lkL [(1, [(6, ROrc.pcall (AV.bool (decide (0 ≤ r.pack ∧ r.pack ≤ (x.l.length : Int) - 1))))])]) (fun Q => (fun (u1 : Int) => (fun (u2 : Bool) => (fun (u3 : Int) => (fun (u4 : Bool) => Tables.follows Tryd.prog.toTables Departure.mixedOrders = true ∧ 1 ≤ 3 ∧ 1 ≤ 1 ∧ (-9223372036854775808 ≤ u1 ∧ u1 ≤ 9223372036854775807) ∧ (∀ (hp : List AObj) (g : R.σ), true = true ∧ Does Tryd.prog R 44 [int i64 r.pack, int i64 0, int i64 u1] hp g (ret (AV.bool u4)) hp g) ∧ (u4 = true → 2 ≤ 3) ∧ ((bif u4 then decide (r.low ≥ 0) else false) = true → 3 ≤ 3) ∧ ((bif u4 then decide (r.low ≥ 0) else false) = true → 2 ≤ 3) ∧ (u2 = true → 3 ≤ 3) ∧ (u2 = true → 1 ≤ 1) ∧ (u2 = true → 1 ≤ 3) ∧ (u2 = true → 0 ≤ r.pack ∧ r.pack < (x.l.length : Int)) ∧ (u2 = true → 1 ≤ 1) ∧ (u2 = true → -9223372036854775808 ≤ u3 ∧ u3 ≤ 9223372036854775807) ∧ Q AEx.ret (St.mk [(4, AV.bool (bif u2 then decide (r.high ≤ u3) else false))] [cells false 1 (nth [encPacks x]), cells false 3 (nth [int i64 r.pack, int i64 r.low, int i64 r.high])] g)) (decide (0 ≤ r.pack ∧ r.pack ≤ u1))) ((↑((x.l.getD (r.pack.toNat) default).l.length) : Int) - 1)) (bif bif decide (0 ≤ r.pack ∧ r.pack ≤ u1) then decide (r.low ≥ 0) else false then decide (r.high ≥ r.low) else false)) ((x.l.length : Int) - 1)) (fun _ => by kernel_rfl) ⟨(by kernel_rfl), ⟨(by omega), ⟨(by omega), ⟨(by omega), ⟨(fun _ _ => ⟨rfl, (Go.Avm.Pack.c_in _ _ _ _ _ _)⟩), ⟨(by omega), ⟨(by omega), ⟨(by omega), ⟨(by omega), ⟨(by omega), ⟨(by omega), ⟨(by intro h; simp at h <;> omega), ⟨(by omega), ⟨(by omega), ?_⟩⟩⟩⟩⟩⟩⟩⟩⟩⟩⟩⟩⟩⟩
 refine (retQ_le (retQ_drop _ _ rfl trivial trivial rfl) (Le.of_eq ?_))
 show (AV.bool (bif bif bif decide (0 ≤ r.pack ∧ r.pack ≤ (↑(List.length x.l) : Int) - 1) then decide (r.low ≥ 0) else false then decide (r.high ≥ r.low) else false then decide (r.high ≤ (↑(List.length (List.getD x.l (Int.toNat r.pack) default).l) : Int) - 1) else false)) = _
 show AV.bool _ = AV.bool _
 congr 1
 unfold rangedB rels
 rw [Bool.eq_iff_iff]
 simp
 omega
def otherB (x : Ix) (i : Int) (r : Rng) : Bool := rangedB x r && r.pack != i
theorem c_formed1 (R : Res) (x : Ix) (gl : KL Rng) (i : Int) (r : Rng) (g : R.σ) (hs : small x) : Does Tryd.prog R 71 [encRng r, .ref 0 0, .ref 1 0] [.cells false 2 (nth [encPacks x, encR gl]), .cells false 1 (fun _ => .int .i64 i)] g (.ret (.bool (otherB x i r))) [.cells false 2 (nth [encPacks x, encR gl]), .cells false 1 (fun _ => .int .i64 i)] g := by
 refine spec_of_wp (nt := 14) (rs := [.tmp 4]) (k0 := 2) (by kernel_rfl) (by kernel_rfl) (by kernel_rfl) rfl ?_
 refine vcQ [] (lkL [(0, [1, 2, 3]), (1, [4])]) (lkL [(1, [(2, ROrc.pcall (AV.bool (rangedB x r)))])]) (fun Q => 2 ≤ 2 ∧ 3 ≤ 3 ∧ (∀ (hp : List AObj) (g : R.σ), true = true ∧ Does Tryd.prog R 72 [encMkt x gl, encRng r] hp g (ret (AV.bool (rangedB x r))) hp g) ∧ (rangedB x r = true → 1 ≤ 3) ∧ (rangedB x r = true → 1 ≤ 1) ∧ Q AEx.ret (St.mk [(4, AV.bool (bif rangedB x r then r.pack != i else false))] [cells false 2 (nth [encPacks x, encR gl]), cells false 1 fun (x : Nat) => int i64 i, cells false 3 (nth [int i64 r.pack, int i64 r.low, int i64 r.high])] g)) (fun _ => by kernel_rfl) ⟨(by omega), ⟨(by omega), ⟨(fun _ _ => ⟨rfl, (Go.Avm.Pack.c_ranged _ _ _ _ _ _ (by omega))⟩), ⟨(by omega), ⟨(by omega), ?_⟩⟩⟩⟩⟩
 refine (retQ_le (retQ_take' 2 _ _ rfl trivial (by omega) trivial ⟨(fun j hj => match j, hj with | 0, _ => trivial | 1, _ => trivial ), ⟨(fun j hj => match j, hj with | 0, _ => trivial ), trivial⟩⟩ (by kernel_rfl) rfl rfl) (Le.of_eq (by kernel_rfl)))
def relB (x : Ix) (i : Int) (r : Rel) : Bool := ((decide ((r.needs.l.length : Int) ≤ 4) && decide ((r.bars.l.length : Int) ≤ 4)) && r.needs.l.all (otherB x i)) && r.bars.l.all (otherB x i)
def hpF (x : Ix) (gl : KL Rng) (i : Int) : List AObj := [.cells false 2 (nth [encPacks x, encR gl]), .cells false 1 (fun _ => .int .i64 i), .cells false 1 (fun _ => .fn 71 0 (fun _ => .any) 2 (nth [.ref 0 0, .ref 1 0]))]
theorem c_formed2 (R : Res) (x : Ix) (gl : KL Rng) (i : Int) (r : Rel) (g : R.σ) (hs : small x) : Does Tryd.prog R 73 [encRel r, .ref 2 0] (hpF x gl i) g (.ret (.bool (relB x i r))) (hpF x gl i) g := by
 refine spec_of_wp (nt := 26) (rs := [.tmp 3]) (k0 := 3) (by kernel_rfl) (by kernel_rfl) (by kernel_rfl) rfl ?_
 refine vcQ [] (lkL [(0, [1, 2]), (1, [3])]) (lkL [(1, [(14, ROrc.kcall (AV.bool (List.all r.needs.l (otherB x i)))), (20, ROrc.kcall (AV.bool (List.all r.bars.l (otherB x i))))])]) (fun Q => (fun (u1 : List AObj) => (fun (u2 : Bool) => (fun (u3 : Bool) => (fun (u4 : AV) => 1 ≤ 2 ∧ (decide ((r.needs.l.length : Int) ≤ 4) = true → 2 ≤ 2) ∧ (u2 = true → 1 ≤ 2) ∧ (u2 = true → 1 ≤ 1) ∧ (u2 = true → true = true ∧ Does Tryd.prog R 39 [encR r.needs, u4] u1 g (ret (AV.bool (List.all r.needs.l (otherB x i)))) u1 g) ∧ (u3 = true → 2 ≤ 2) ∧ (u3 = true → 1 ≤ 1) ∧ (u3 = true → true = true ∧ Does Tryd.prog R 39 [encR r.bars, u4] u1 g (ret (AV.bool (List.all r.bars.l (otherB x i)))) u1 g) ∧ Q AEx.ret (St.mk [(3, AV.bool (bif u3 then List.all r.bars.l (otherB x i) else false))] u1 g)) (fn 71 0 (fun (x : Nat) => any) 2 (nth [ref 0 0, ref 1 0]))) (bif u2 then List.all r.needs.l (otherB x i) else false)) (bif decide ((r.needs.l.length : Int) ≤ 4) then decide ((r.bars.l.length : Int) ≤ 4) else false)) ([cells false 2 (nth [encPacks x, encR gl]), cells false 1 fun (x : Nat) => int i64 i, cells false 1 fun (x : Nat) => fn 71 0 (fun (x : Nat) => any) 2 (nth [ref 0 0, ref 1 0]), cells false 2 (nth [encR r.needs, encR r.bars])])) (fun _ => by kernel_rfl) ⟨(by omega), ⟨(by omega), ⟨(by omega), ⟨(by omega), ⟨(fun hgd => ⟨rfl, (Go.Avm.Pack.c_everyF_PackRange _ _ _ _ _ _ _ _ _ _ (by simp at * <;> omega) (by kernel_rfl) (fun r _ => (does_sub' [0, 1] 4 (fun R g => Go.Avm.Pack.c_formed1 R (x) (gl) (i) (r) g (by omega)) rfl rfl rfl (by exact ⟨⟨rfl, Nat.le_refl _, fun j hj => match j, hj with | 0, _ => (Le.refl _) | 1, _ => (Le.refl _) ⟩, ⟨⟨rfl, Nat.le_refl _, fun j hj => match j, hj with | 0, _ => (Le.refl _) ⟩, trivial⟩⟩) (by exact ⟨by omega, ⟨by omega, trivial⟩⟩) (by exact ⟨le_ren (by exact ⟨⟨⟨trivial, trivial⟩, trivial⟩, trivial⟩), ⟨(Le.refl _), ⟨(Le.refl _), trivial⟩⟩⟩) (by exact le_unren (by exact trivial)) (by exact ⟨⟨rfl, Nat.le_refl _, fun j hj => match j, hj with | 0, _ => (Le.refl _) | 1, _ => (Le.refl _) ⟩, ⟨⟨rfl, Nat.le_refl _, fun j hj => match j, hj with | 0, _ => (Le.refl _) ⟩, ⟨LeO.rflc, ⟨LeO.rflc, trivial⟩⟩⟩⟩))))⟩), ⟨(by omega), ⟨(by omega), ⟨(fun hgd => ⟨rfl, (Go.Avm.Pack.c_everyF_PackRange _ _ _ _ _ _ _ _ _ _ (by simp at * <;> omega) (by kernel_rfl) (fun r _ => (does_sub' [0, 1] 4 (fun R g => Go.Avm.Pack.c_formed1 R (x) (gl) (i) (r) g (by omega)) rfl rfl rfl (by exact ⟨⟨rfl, Nat.le_refl _, fun j hj => match j, hj with | 0, _ => (Le.refl _) | 1, _ => (Le.refl _) ⟩, ⟨⟨rfl, Nat.le_refl _, fun j hj => match j, hj with | 0, _ => (Le.refl _) ⟩, trivial⟩⟩) (by exact ⟨by omega, ⟨by omega, trivial⟩⟩) (by exact ⟨le_ren (by exact ⟨⟨⟨trivial, trivial⟩, trivial⟩, trivial⟩), ⟨(Le.refl _), ⟨(Le.refl _), trivial⟩⟩⟩) (by exact le_unren (by exact trivial)) (by exact ⟨⟨rfl, Nat.le_refl _, fun j hj => match j, hj with | 0, _ => (Le.refl _) | 1, _ => (Le.refl _) ⟩, ⟨⟨rfl, Nat.le_refl _, fun j hj => match j, hj with | 0, _ => (Le.refl _) ⟩, ⟨LeO.rflc, ⟨LeO.rflc, trivial⟩⟩⟩⟩))))⟩), ?_⟩⟩⟩⟩⟩⟩⟩⟩
 refine (retQ_le (retQ_take' 3 _ _ rfl trivial (by omega) trivial ⟨(fun j hj => match j, hj with | 0, _ => trivial | 1, _ => trivial ), ⟨(fun j hj => match j, hj with | 0, _ => trivial ), ⟨(fun j hj => match j, hj with | 0, _ => ⟨trivial, ⟨⟨trivial, (show 1 ≤ 3 by omega)⟩, (show 2 ≤ 3 by omega)⟩⟩ ), trivial⟩⟩⟩ (by kernel_rfl) rfl rfl) (Le.of_eq (by kernel_rfl)))
def relsB (x : Ix) (i : Int) (l : List Rel) : Bool := decide (l.length ≤ 5) && l.all (relB x i)
def allN' (n : Nat) (q : Nat → Bool) : Bool := (List.range n).all q
theorem allN'_false {n i : Nat} {q : Nat → Bool} (h : i < n) (hq : q i = false) : allN' n q = false := by
 unfold allN'
 rw [List.all_eq_false]
 exact ⟨i, by simpa using h, by simp [hq]⟩
theorem allN'_true {n : Nat} {q : Nat → Bool} (h : ∀ i, i < n → q i = true) : allN' n q = true := by
 unfold allN'
 rw [List.all_eq_true]
 intro i hi
 exact h i (by simpa using hi)
def formedB (x : Ix) : Bool := decide (1 ≤ x.l.length ∧ x.l.length ≤ 8) && allN' x.l.length (fun i => relsB x i (x.l.getD i default).l)
def smallR (x : Ix) : Prop := ∀ i k, ((x.l.getD i default).l.getD k default).needs.l.length < 1000000 ∧ ((x.l.getD i default).l.getD k default).bars.l.length < 1000000
theorem c_formed (R : Res) (x : Ix) (gl : KL Rng) (hp : List AObj) (g : R.σ) (hs : small x) : Does Tryd.prog R 37 [encMkt x gl] hp g (.ret (.bool (formedB x))) hp g := by
 have w1 := hs.1
 refine does_any' (fun R g => ?_) (by exact ⟨⟨⟨trivial, trivial⟩, trivial⟩, trivial⟩) R hp g
 refine spec_of_wp (nt := 34) (rs := [.tmp 2]) (k0 := 0) (by kernel_rfl) (by kernel_rfl) (by kernel_rfl) rfl ?_
 refine vcQ [] (lkL [(0, [1]), (1, [1, 12]), (2, [2]), (3, [1, 15, 16, 17])]) (lkL [(1, [(4, ROrc.pcall (AV.bool (decide (1 ≤ (x.l.length : Int) ∧ (x.l.length : Int) ≤ 8))))])]) (fun Q => (fun (u1 : Int) => (fun (u2 : Bool) => 1 ≤ 2 ∧ (∀ (hp : List AObj) (g : R.σ), true = true ∧ Does Tryd.prog R 41 [int i64 u1, int i64 1, int i64 8] hp g (ret (AV.bool u2)) hp g) ∧ ((!u2) = true → Q AEx.ret (St.mk [(2, AV.bool false)] [cells false 2 (nth [encPacks x, encR gl])] g)) ∧ ((!u2) = false → 1 ≤ 2 ∧ Wp Tryd.prog R 34 0 Rd.top (bodyOf Tryd.prog 37) [1, 1, 0, 1, 0] (contQ Tryd.prog R 34 0 Rd.top (bodyOf Tryd.prog 37) Q [Kont.blk 0, Kont.seq [1, 1, 1]]) (St.mk [(1, ref 0 0), (15, encPacks x), (16, int i64 u1), (17, int i64 0)] [cells false 2 (nth [encPacks x, encR gl])] g))) (decide (1 ≤ u1 ∧ u1 ≤ 8))) ((x.l.length : Int))) (fun _ => by kernel_rfl) ⟨(by omega), ⟨(fun _ _ => ⟨rfl, (Go.Avm.Pack.c_within _ _ _ _ _ _)⟩), ⟨fun c1 => have c1 : ¬(1 ≤ (x.l.length : Int) ∧ (x.l.length : Int) ≤ 8) := (of_decide_eq_false ((Bool.not_eq_true' _).mp c1)); ?_, fun c1 => have c1 : 1 ≤ (x.l.length : Int) ∧ (x.l.length : Int) ≤ 8 := (of_decide_eq_true ((Bool.not_eq_false' _).mp c1)); ⟨(by omega), ?_⟩⟩⟩⟩
 ·refine (retQ_le (retQ_drop _ _ rfl trivial trivial rfl) (Le.of_eq ?_))
  show (AV.bool false) = _
  congr 1
  unfold formedB
  simp
  omega
 ·have hb : 1 ≤ x.l.length ∧ x.l.length ≤ 8 := by omega
  refine (wp_loop (by kernel_rfl) (fun (i : Nat) => ⟨[(1, ref 0 0), (15, encPacks x), (16, int i64 (x.l.length : Int)), (17, .int .i64 (i : Int))], [cells false 2 (nth [encPacks x, encR gl])], g⟩) (fun (i : Nat) => (i ≤ x.l.length ∧ ∀ j, j < i → relsB x j (x.l.getD j default).l = true)) (fun (i : Nat) => (x.l.length - i)) 0 (to_fr ⟨(Le.refl _), ⟨(Le.refl _), ⟨(Le.refl _), ⟨(Le.of_eq (by kernel_rfl)), trivial⟩⟩⟩⟩ rfl rfl) ?_ (fun i hi => ?_))
  ·exact ⟨Nat.zero_le _, fun j hj => absurd hj (by omega)⟩
  ·obtain ⟨h1, h2⟩ := hi
   refine vcQ [] (lkL [(4, [1, 15, 16, 17, 18]), (5, [1, 3, 4, 15, 16, 17]), (6, [1, 4, 5, 15, 16, 17]), (7, [1, 4, 6, 15, 16, 17]), (8, [1, 15, 16, 17, 32]), (9, [2]), (10, [1, 15, 16, 17])]) (lkL [(5, [(4, ROrc.val (Orc.obj (nth [int i64 (i : Int)])))]), (6, [(2, ROrc.val (Orc.obj (nth [fn 71 0 (nth []) 2 (nth [ref 0 0, ref 1 0])])))]), (8, [(6, ROrc.kcall (AV.bool (List.all (x.l.getD i default).l (relB x (i : Int)))))])]) (fun Q => (fun (u1 : List AObj) => (fun (u2 : Int) => (fun (u3 : Int) => (fun (u4 : Int) => (fun (u5 : Bool) => (decide (u4 < u3) = true → (0 ≤ u4 ∧ u4 < u3) ∧ 1 ≤ 1 ∧ 1 ≤ 1 ∧ (∀ (c : Nat), c < 1 → nth [int i64 u4] c = over (fun (a : Nat) => int i64 0) 0 1 (fun (x : Nat) => int i64 u4) c) ∧ 1 ≤ 1 ∧ (∀ (c : Nat), c < 1 → nth [fn 71 0 (nth []) 2 (nth [ref 0 0, ref 1 0])] c = over (fun (a : Nat) => AV.nilf) 0 1 (fun (x : Nat) => fn 71 0 (nth []) 2 (nth [ref 0 0, ref 1 0])) c) ∧ ((!decide (u2 > 5)) = true → true = true ∧ Does Tryd.prog R 74 [encRels (x.l.getD i default), fn 73 0 (nth []) 1 (nth [ref 2 0])] u1 g (ret (AV.bool u5)) u1 g) ∧ ((bif decide (u2 > 5) then true else !u5) = true → Q AEx.ret (St.mk [(2, AV.bool false)] u1 g)) ∧ ((bif decide (u2 > 5) then true else !u5) = false → (-9223372036854775808 ≤ u4 + 1 ∧ u4 + 1 ≤ 9223372036854775807) ∧ Q AEx.normal (St.mk [(1, ref 0 0), (15, encPacks x), (16, int i64 u3), (17, int i64 (u4 + 1))] u1 g))) ∧ (decide (u4 < u3) = false → Q (AEx.exit 0) (St.mk [(1, ref 0 0), (15, encPacks x), (16, int i64 u3), (17, int i64 u4), (18, AV.bool (decide (u4 < u3)))] [cells false 2 (nth [encPacks x, encR gl])] g))) (List.all (x.l.getD i default).l (relB x u4))) ((i : Int))) ((x.l.length : Int))) ((↑((x.l.getD i default).l.length) : Int))) ([cells false 2 (nth [encPacks x, encR gl]), cells false 1 (nth [int i64 (i : Int)]), cells false 1 (nth [fn 71 0 (nth []) 2 (nth [ref 0 0, ref 1 0])])])) (fun _ => by kernel_rfl) ⟨fun c1 => have c1 : (i : Int) < (x.l.length : Int) := (of_decide_eq_true c1); ⟨(by omega), ⟨(by omega), ⟨(by omega), ⟨(fun c hc => match c, hc with | 0, _ => (by kernel_rfl) ), ⟨(by omega), ⟨(fun c hc => match c, hc with | 0, _ => (by kernel_rfl) ), ⟨(fun hgd => ⟨rfl, (Go.Avm.Pack.c_everyF_PackRelease _ _ _ _ _ _ _ _ _ _ (by simp at * <;> omega) (by kernel_rfl) (fun r _ => (does_sub' [0, 1, 2] 3 (fun R g => Go.Avm.Pack.c_formed2 R (x) (gl) ((i : Int)) (r) g (by omega)) rfl rfl rfl (by exact ⟨⟨rfl, Nat.le_refl _, fun j hj => match j, hj with | 0, _ => (Le.refl _) | 1, _ => (Le.refl _) ⟩, ⟨⟨rfl, Nat.le_refl _, fun j hj => match j, hj with | 0, _ => (Le.refl _) ⟩, ⟨⟨rfl, Nat.le_refl _, fun j hj => match j, hj with | 0, _ => (Le.fn (fun i hi => absurd hi (by omega)) (fun i hi => match i, hi with | 0, _ => (Le.refl _) | 1, _ => (Le.refl _) )) ⟩, trivial⟩⟩⟩) (by exact ⟨by omega, ⟨by omega, ⟨by omega, trivial⟩⟩⟩) (by exact ⟨le_ren (by exact ⟨⟨trivial, trivial⟩, trivial⟩), ⟨(Le.refl _), trivial⟩⟩) (by exact le_unren (by exact trivial)) (by exact ⟨⟨rfl, Nat.le_refl _, fun j hj => match j, hj with | 0, _ => (Le.refl _) | 1, _ => (Le.refl _) ⟩, ⟨⟨rfl, Nat.le_refl _, fun j hj => match j, hj with | 0, _ => (Le.refl _) ⟩, ⟨⟨rfl, Nat.le_refl _, fun j hj => match j, hj with | 0, _ => (Le.fn (fun i hi => absurd hi (by omega)) (fun i hi => match i, hi with | 0, _ => (Le.refl _) | 1, _ => (Le.refl _) )) ⟩, trivial⟩⟩⟩))))⟩), ⟨fun c2 => have c2 : (↑((x.l.getD i default).l.length) : Int) > 5 ∨ List.all (x.l.getD i default).l (relB x (i : Int)) = false := ((cO_t c2).imp (fun h => (of_decide_eq_true h)) (fun h => ((Bool.not_eq_true' _).mp h))); ?_, fun c2 => have c2 : ¬(↑((x.l.getD i default).l.length) : Int) > 5 ∧ List.all (x.l.getD i default).l (relB x (i : Int)) = true := ⟨(of_decide_eq_false (cO_f c2).1), ((Bool.not_eq_false' _).mp (cO_f c2).2)⟩; ⟨(by omega), ?_⟩⟩⟩⟩⟩⟩⟩⟩⟩, fun c1 => have c1 : ¬(i : Int) < (x.l.length : Int) := (of_decide_eq_false c1); ?_⟩
   ·refine ⟨_, To.refl _, (retQ_le (retQ_drop _ _ rfl trivial trivial rfl) (Le.of_eq ?_))⟩
    show (AV.bool false) = _
    have : relsB x i (x.l.getD i default).l = false := by
     unfold relsB
     rcases c2 with h | h
     ·have : ¬ (x.l.getD i default).l.length ≤ 5 := by omega
      simp only [this, decide_false, Bool.false_and]
     ·rw [h, Bool.and_false]
    unfold formedB
    rw [allN'_false (i := i) (by omega) this]
    simp
   ·refine (next_round (i + 1) (to_sel [0] 3 rfl rfl rfl rfl rfl ⟨(Le.refl _), ⟨(Le.refl _), ⟨(Le.refl _), ⟨(Le.refl _), trivial⟩⟩⟩⟩ ⟨⟨rfl, Nat.le_refl _, fun j hj => match j, hj with | 0, _ => (Le.refl _) | 1, _ => (Le.refl _) ⟩, trivial⟩) ?_ ?_)
    ·refine ⟨by omega, fun j hj => ?_⟩
     rcases Nat.lt_or_ge j i with h | h
     ·exact h2 j h
     ·have : j = i := by omega
      subst this
      unfold relsB
      have : (x.l.getD j default).l.length ≤ 5 := by omega
      simp only [this, decide_true, Bool.true_and]
      exact c2.2
    ·omega
   ·refine ⟨_, To.refl _, vcQ [] (lkL [(11, [2])]) (fun _ => []) (fun Q => Q AEx.ret (St.mk [(2, AV.bool true)] [cells false 2 (nth [encPacks x, encR gl])] g)) (fun _ => by kernel_rfl) (?_)⟩
    refine (retQ_le (retQ_drop _ _ rfl trivial trivial rfl) (Le.of_eq ?_))
    show (AV.bool true) = _
    have : allN' x.l.length (fun i => relsB x i (x.l.getD i default).l) = true := allN'_true (fun j hj => h2 j (by omega))
    unfold formedB
    rw [this]
    simp [hb]
end Go.Avm.Pack
namespace Go.Avm.Pack
open Go Go.Avm Go.Proofs
open Go.IntKind (i64 u64)
open Go.Avm.AV (int bool any fz fp sl ow ref fn ifc val agg tup)
open Go.Avm.AObj (cells dead)
open Go.Avm.Oc (ret)
set_option maxRecDepth 4000
def checkB (x : Ix) (gl : List Rng) : Bool := formedB x && (decide (gl.length ≤ 4) && gl.all (rangedB x))
theorem Check_all (R : Res) (x : Ix) (gl : KL Rng) (hp : List AObj) (g : R.σ) (hs : small x) (hg : gl.l.length < 1000000) : Does Tryd.prog R 47 [encIx x, encR gl] hp g (.ret (.int .i64 (if checkB x gl.l then 0 else 2))) hp g := by
 refine does_any' (fun R g => ?_) (by exact ⟨⟨trivial, trivial⟩, ⟨trivial, trivial⟩⟩) R hp g
 refine spec_of_wp (nt := 24) (rs := [.tmp 4]) (k0 := 0) (by kernel_rfl) (by kernel_rfl) (by kernel_rfl) rfl ?_
 refine vcQ [] (lkL [(0, [1, 2]), (1, [1, 5]), (2, [23]), (3, [4]), (4, [4])]) (lkL [(1, [(4, ROrc.val (Orc.obj (nth [encPacks x, encR gl])))]), (2, [(1, ROrc.pcall (AV.bool (formedB x))), (12, ROrc.kcall (AV.bool (List.all gl.l (rangedB x))))])]) (fun Q => (fun (u1 : List AObj) => (fun (u2 : Bool) => 1 ≤ 1 ∧ 2 ≤ 2 ∧ (∀ (c : Nat), c < 2 → nth [encPacks x, encR gl] c = over (nth [fz Fz.nil 0 0 fun _ _ => any, fz Fz.nil 0 0 fun _ _ => any]) 0 2 (List.brecOn (motive := fun (x : List AV) => Nat → AV) [encPacks x, encR gl] nth._f) c) ∧ 2 ≤ 2 ∧ (∀ (hp : List AObj) (g : R.σ), true = true ∧ Does Tryd.prog R 37 [encMkt x gl] hp g (ret (AV.bool (formedB x))) hp g) ∧ ((!u2) = true → 2 ≤ 2) ∧ ((!u2) = true → true = true ∧ Does Tryd.prog R 39 [encR gl, fn 72 1 (nth [encMkt x gl]) 0 (nth [])] u1 g (ret (AV.bool (List.all gl.l (rangedB x)))) u1 g) ∧ ((bif u2 then true else !List.all gl.l (rangedB x)) = true → Q AEx.ret (St.mk [(4, int i64 2)] u1 g)) ∧ ((bif u2 then true else !List.all gl.l (rangedB x)) = false → Q AEx.ret (St.mk [(4, int i64 0)] u1 g))) (bif !formedB x then true else decide ((gl.l.length : Int) > 4))) ([cells false 1 (nth [encPacks x]), cells false 2 (nth [encPacks x, encR gl])])) (fun _ => by kernel_rfl) ⟨(by omega), ⟨(by omega), ⟨(fun c hc => match c, hc with | 0, _ => (by kernel_rfl) | 1, _ => (by kernel_rfl) ), ⟨(by omega), ⟨(fun _ _ => ⟨rfl, (Go.Avm.Pack.c_formed _ _ _ _ _ (by omega))⟩), ⟨(by omega), ⟨(fun hgd => ⟨rfl, (Go.Avm.Pack.c_everyF_PackRange _ _ _ _ _ _ _ _ _ _ (by omega) (by kernel_rfl) (fun r _ => (Go.Avm.Pack.c_ranged _ _ _ _ _ _ (by omega))))⟩), ⟨fun c1 => have c1 : (formedB x = false ∨ (gl.l.length : Int) > 4) ∨ List.all gl.l (rangedB x) = false := ((cO_t c1).imp (fun h => ((cO_t h).imp (fun h => ((Bool.not_eq_true' _).mp h)) (fun h => (of_decide_eq_true h)))) (fun h => ((Bool.not_eq_true' _).mp h))); ?_, fun c1 => have c1 : (formedB x = true ∧ ¬(gl.l.length : Int) > 4) ∧ List.all gl.l (rangedB x) = true := ⟨⟨((Bool.not_eq_false' _).mp (cO_f (cO_f c1).1).1), (of_decide_eq_false (cO_f (cO_f c1).1).2)⟩, ((Bool.not_eq_false' _).mp (cO_f c1).2)⟩; ?_⟩⟩⟩⟩⟩⟩⟩⟩
 ·refine (retQ_le (retQ_drop _ _ rfl trivial trivial rfl) (Le.of_eq ?_))
  show (int i64 2) = _
  have : checkB x gl.l = false := by
   unfold checkB
   rcases c1 with (h | h) | h
   ·rw [h]; rfl
   ·have : ¬ gl.l.length ≤ 4 := by omega
    simp only [this, decide_false, Bool.false_and, Bool.and_false]
   ·rw [h, Bool.and_false, Bool.and_false]
  rw [this]; rfl
 ·refine (retQ_le (retQ_drop _ _ rfl trivial trivial rfl) (Le.of_eq ?_))
  show (int i64 0) = _
  have : checkB x gl.l = true := by
   unfold checkB
   have : gl.l.length ≤ 4 := by omega
   simp only [this, decide_true, Bool.true_and, c1]
  rw [this]; rfl
theorem c_Check_t (R : Res) (x : Ix) (gl : KL Rng) (hp : List AObj) (g : R.σ) (hc : checkB x gl.l = true) (hs : small x) (hg : gl.l.length < 1000000) : Does Tryd.prog R 47 [encIx x, encR gl] hp g (.ret (.int .i64 0)) hp g := by
 have := Check_all R x gl hp g hs hg
 rw [hc] at this
 exact this
theorem c_Check_f (R : Res) (x : Ix) (gl : KL Rng) (hp : List AObj) (g : R.σ) (hc : checkB x gl.l = false) (hs : small x) (hg : gl.l.length < 1000000) : Does Tryd.prog R 47 [encIx x, encR gl] hp g (.ret (.int .i64 2)) hp g := by
 have := Check_all R x gl hp g hs hg
 rw [hc] at this
 exact this
def planOf (l : List Int) (n : Nat) : Nat → Int := fun j => if j < n then l.getD j 0 else 0
def plannedB (x : Ix) (l : List Int) : Bool := decide (l.length = x.l.length) && allN' x.l.length (fun i => decide (-1 ≤ l.getD i 0 ∧ l.getD i 0 < ((x.l.getD i default).l.length : Int)))
theorem plannedB_iff {x : Ix} {l : List Int} : plannedB x l = true ↔ l.length = x.l.length ∧ ∀ j, j < x.l.length → -1 ≤ l.getD j 0 ∧ l.getD j 0 < ((x.l.getD j default).l.length : Int) := by
 unfold plannedB allN'
 simp
theorem c_planned_t (R : Res) (x : Ix) (gl : KL Rng) (l : KL Int) (hp : List AObj) (g : R.σ) (h : plannedB x l.l = true) (hs : small x) (h8 : x.l.length ≤ 8) : Does Tryd.prog R 48 [encMkt x gl, encI l] hp g (.ret (.tup 2 (nth [encPlan (planOf l.l x.l.length), .bool true]))) hp g := by
 have w1 := hs.1
 have w2 := hs.2
 obtain ⟨hl, hr⟩ := plannedB_iff.1 h
 refine does_any' (fun R g => ?_) (by exact ⟨⟨⟨trivial, trivial⟩, trivial⟩, ⟨trivial, trivial⟩⟩) R hp g
 refine spec_of_wp (nt := 41) (rs := [.cell 4 89, .tmp 5]) (k0 := 0) (by kernel_rfl) (by kernel_rfl) (by kernel_rfl) rfl ?_
 refine vcQ [] (lkL [(0, [1, 2, 4]), (1, [1, 2, 4, 6]), (2, [1, 2, 4, 6, 15]), (3, [4, 5]), (4, [2, 4, 6, 17, 18, 19])]) (lkL [(3, [(1, ROrc.val (Orc.obj (nth [int i64 0, int i64 0, int i64 0, int i64 0, int i64 0, int i64 0, int i64 0, int i64 0])))])]) (fun Q => (fun (u1 : List AV) => (fun (u2 : List AObj) => (fun (u3 : Bool) => 1 ≤ 2 ∧ (u3 = true → 8 ≤ 8 ∧ 8 ≤ 8 ∧ (∀ (c : Nat), c < 8 → nth u1 c = over (nth u1) 0 8 (List.brecOn (motive := fun (x : List AV) => Nat → AV) u1 nth._f) c) ∧ Q AEx.ret (St.mk [(4, ref 1 0), (5, AV.bool false)] u2 g)) ∧ (u3 = false → Wp Tryd.prog R 41 0 Rd.top (bodyOf Tryd.prog 48) [1, 1, 1, 0, 1, 0] (contQ Tryd.prog R 41 0 Rd.top (bodyOf Tryd.prog 48) Q [Kont.blk 0, Kont.seq [1, 1, 1, 1]]) (St.mk [(2, ref 0 0), (4, ref 1 0), (6, ref 2 0), (17, encI l), (18, int i64 (l.l.length : Int)), (19, int i64 0)] u2 g))) ((l.l.length : Int) != (x.l.length : Int))) ([cells false 2 (nth [encPacks x, encR gl]), cells false 8 (nth u1), cells false 8 (nth u1)])) ([int i64 0, int i64 0, int i64 0, int i64 0, int i64 0, int i64 0, int i64 0, int i64 0])) (fun _ => by kernel_rfl) ⟨(by omega), ⟨fun c1 => have c1 : ¬(l.l.length : Int) = (x.l.length : Int) := (bne_iff_ne.mp c1); ⟨(by omega), ⟨(by omega), ⟨(fun c hc => match c, hc with | 0, _ => (by kernel_rfl) | 1, _ => (by kernel_rfl) | 2, _ => (by kernel_rfl) | 3, _ => (by kernel_rfl) | 4, _ => (by kernel_rfl) | 5, _ => (by kernel_rfl) | 6, _ => (by kernel_rfl) | 7, _ => (by kernel_rfl) ), ?_⟩⟩⟩, fun c1 => have c1 : (l.l.length : Int) = (x.l.length : Int) := (bne_eq_false_iff_eq.mp c1); ?_⟩⟩
 ·omega
 ·refine (wp_loop (by kernel_rfl) (fun (i : Nat) => ⟨[(2, ref 0 0), (4, ref 1 0), (6, ref 2 0), (17, encI l), (18, int i64 (l.l.length : Int)), (19, .int .i64 (i : Int))], [.cells false 2 (nth [encPacks x, encR gl]), .cells false 8 (fun _ => .int .i64 0), .cells false 8 (fun j => .int .i64 (planOf l.l i j))], g⟩) (fun (i : Nat) => (i ≤ x.l.length)) (fun (i : Nat) => (x.l.length - i)) 0 (to_le ⟨(Le.refl _), ⟨(Le.refl _), ⟨(Le.refl _), ⟨(Le.refl _), ⟨(Le.refl _), ⟨(Le.of_eq (by kernel_rfl)), trivial⟩⟩⟩⟩⟩⟩ ⟨LeO.rflc, ⟨⟨rfl, Nat.le_refl _, fun j hj => match j, hj with | 0, _ => (Le.refl _) | 1, _ => (Le.refl _) | 2, _ => (Le.refl _) | 3, _ => (Le.refl _) | 4, _ => (Le.refl _) | 5, _ => (Le.refl _) | 6, _ => (Le.refl _) | 7, _ => (Le.refl _) ⟩, ⟨⟨rfl, Nat.le_refl _, fun j hj => match j, hj with | 0, _ => (Le.of_eq (by kernel_rfl)) | 1, _ => (Le.of_eq (by kernel_rfl)) | 2, _ => (Le.of_eq (by kernel_rfl)) | 3, _ => (Le.of_eq (by kernel_rfl)) | 4, _ => (Le.of_eq (by kernel_rfl)) | 5, _ => (Le.of_eq (by kernel_rfl)) | 6, _ => (Le.of_eq (by kernel_rfl)) | 7, _ => (Le.of_eq (by kernel_rfl)) ⟩, trivial⟩⟩⟩ rfl) ?_ (fun i hi => ?_))
  ·exact Nat.zero_le _
  ·have w3 := w2 i
   refine vcQ [] (lkL [(5, [2, 4, 6, 17, 18, 19, 20]), (6, [2, 4, 6, 7, 8, 17, 18, 19]), (7, [2, 4, 6, 7, 8, 17, 18, 19, 34]), (8, [4, 5]), (9, [2, 4, 6, 17, 18, 19]), (10, [2, 4, 6, 17, 18, 19])]) (lkL [(7, [(9, ROrc.pcall (AV.bool (decide (-1 ≤ l.l.getD i 0 ∧ l.l.getD i 0 ≤ (↑((x.l.getD i default).l.length) : Int) - 1))))]), (8, [(1, ROrc.val (Orc.obj fun (j : Nat) => int i64 (planOf l.l i j)))])]) (fun Q => (fun (u1 : Int) => (fun (u2 : Int) => (fun (u3 : Int) => (fun (u4 : Int) => (fun (u5 : AObj) => (fun (u6 : AObj) => (fun (u7 : Bool) => (decide (u4 < u3) = true → (0 ≤ u4 ∧ u4 < u3) ∧ 1 ≤ 1 ∧ 1 ≤ 2 ∧ (0 ≤ u4 ∧ u4 < (x.l.length : Int)) ∧ 1 ≤ 1 ∧ (-9223372036854775808 ≤ u1 ∧ u1 ≤ 9223372036854775807) ∧ (∀ (hp : List AObj) (g : R.σ), true = true ∧ Does Tryd.prog R 41 [int i64 u2, int i64 (-1), int i64 u1] hp g (ret (AV.bool u7)) hp g) ∧ ((!u7) = true → 8 ≤ 8 ∧ 8 ≤ 8 ∧ (∀ (c : Nat), c < 8 → int i64 (planOf l.l i c) = over (fun (x : Nat) => int i64 0) 0 8 (fun (j : Nat) => int i64 (planOf l.l i j)) c) ∧ Q AEx.ret (St.mk [(4, ref 1 0), (5, AV.bool false)] [u6, u5, u5] g)) ∧ ((!u7) = false → (0 ≤ u4 ∧ u4 < (↑8 : Int)) ∧ i + 1 ≤ 8 ∧ (-9223372036854775808 ≤ u4 + 1 ∧ u4 + 1 ≤ 9223372036854775807) ∧ Q AEx.normal (St.mk [(2, ref 0 0), (4, ref 1 0), (6, ref 2 0), (17, encI l), (18, int i64 u3), (19, int i64 (u4 + 1))] [u6, cells false 8 fun (x : Nat) => int i64 0, cells false 8 (over (fun (j : Nat) => int i64 (planOf l.l i j)) i 1 fun (x : Nat) => int i64 u2)] g))) ∧ (decide (u4 < u3) = false → Q (AEx.exit 0) (St.mk [(2, ref 0 0), (4, ref 1 0), (6, ref 2 0), (17, encI l), (18, int i64 u3), (19, int i64 u4), (20, AV.bool (decide (u4 < u3)))] [u6, cells false 8 fun (x : Nat) => int i64 0, u5] g))) (decide (-1 ≤ u2 ∧ u2 ≤ u1))) (cells false 2 (nth [encPacks x, encR gl]))) (cells false 8 fun (j : Nat) => int i64 (planOf l.l i j))) ((i : Int))) ((l.l.length : Int))) (l.l.getD i 0)) ((↑((x.l.getD i default).l.length) : Int) - 1)) (fun _ => by kernel_rfl) ⟨fun c1 => have c1 : (i : Int) < (l.l.length : Int) := (of_decide_eq_true c1); ⟨(by omega), ⟨(by omega), ⟨(by omega), ⟨(by omega), ⟨(by omega), ⟨(by omega), ⟨(fun _ _ => ⟨rfl, (Go.Avm.Pack.c_within _ _ _ _ _ _)⟩), ⟨fun c2 => have c2 : ¬(-1 ≤ l.l.getD i 0 ∧ l.l.getD i 0 ≤ (↑((x.l.getD i default).l.length) : Int) - 1) := (of_decide_eq_false ((Bool.not_eq_true' _).mp c2)); ⟨(by omega), ⟨(by omega), ⟨(fun c hc => match c, hc with | 0, _ => (by kernel_rfl) | 1, _ => (by kernel_rfl) | 2, _ => (by kernel_rfl) | 3, _ => (by kernel_rfl) | 4, _ => (by kernel_rfl) | 5, _ => (by kernel_rfl) | 6, _ => (by kernel_rfl) | 7, _ => (by kernel_rfl) ), ?_⟩⟩⟩, fun c2 => have c2 : -1 ≤ l.l.getD i 0 ∧ l.l.getD i 0 ≤ (↑((x.l.getD i default).l.length) : Int) - 1 := (of_decide_eq_true ((Bool.not_eq_false' _).mp c2)); ⟨(by omega), ⟨(by omega), ⟨(by omega), ?_⟩⟩⟩⟩⟩⟩⟩⟩⟩⟩⟩, fun c1 => have c1 : ¬(i : Int) < (l.l.length : Int) := (of_decide_eq_false c1); ?_⟩
   ·have := hr i (by omega)
    omega
   ·refine (next_round (i + 1) (to_le ⟨(Le.refl _), ⟨(Le.refl _), ⟨(Le.refl _), ⟨(Le.refl _), ⟨(Le.refl _), ⟨(Le.of_eq (by kernel_rfl)), trivial⟩⟩⟩⟩⟩⟩ ⟨LeO.rflc, ⟨LeO.rflc, ⟨(LeO.cells (fun j hj => ?_)), trivial⟩⟩⟩ rfl) ?_ ?_)
    ·rw [over_eq]
     unfold planOf
     split
     ·rename_i hj
      have : j = i := by omega
      subst this
      rw [if_pos (by omega)]
     ·rename_i hj
      by_cases hji : j < i
      ·rw [if_pos hji, if_pos (by omega)]
      ·rw [if_neg hji, if_neg (by omega)]
    ·omega
    ·omega
   ·have e : i = x.l.length := by omega
    refine ⟨_, To.refl _, vcQ [] (lkL [(11, [4, 5])]) (lkL [(11, [(1, ROrc.val (Orc.obj fun (j : Nat) => int i64 (planOf l.l i j)))])]) (fun Q => (fun (u1 : AObj) => 8 ≤ 8 ∧ 8 ≤ 8 ∧ (∀ (c : Nat), c < 8 → int i64 (planOf l.l i c) = over (fun (x : Nat) => int i64 0) 0 8 (fun (j : Nat) => int i64 (planOf l.l i j)) c) ∧ Q AEx.ret (St.mk [(4, ref 1 0), (5, AV.bool true)] [cells false 2 (nth [encPacks x, encR gl]), u1, u1] g)) (cells false 8 fun (j : Nat) => int i64 (planOf l.l i j))) (fun _ => by kernel_rfl) ⟨(by omega), ⟨(by omega), ⟨(fun c hc => match c, hc with | 0, _ => (by kernel_rfl) | 1, _ => (by kernel_rfl) | 2, _ => (by kernel_rfl) | 3, _ => (by kernel_rfl) | 4, _ => (by kernel_rfl) | 5, _ => (by kernel_rfl) | 6, _ => (by kernel_rfl) | 7, _ => (by kernel_rfl) ), ?_⟩⟩⟩⟩
    refine (retQ_le (retQ_drop (tup 2 (nth [agg 8 fun (j : Nat) => int i64 (planOf l.l i j), AV.bool true])) ([0 + (TyI.mk ((fun (x : TypeInfo) => x.desc) Tryd.prog.types[88]) Tryd.prog.types[89].size Tryd.prog.types[89].bytes (cellA (ofVal (Value.agg #[Value.int i64 0, Value.int i64 0, Value.int i64 0, Value.int i64 0, Value.int i64 0, Value.int i64 0, Value.int i64 0, Value.int i64 0]))) (isAggD ((fun (x : TypeInfo) => x.desc) Tryd.prog.types[88])) (flatTy Tryd.prog 89)).size ≤ 8]) (by kernel_rfl) (by exact ⟨(by decide), trivial⟩) ⟨⟨trivial, ⟨⟨⟨⟨⟨⟨⟨⟨trivial, trivial⟩, trivial⟩, trivial⟩, trivial⟩, trivial⟩, trivial⟩, trivial⟩, trivial⟩⟩, trivial⟩ rfl) (Le.tup (fun j hj => match j, hj with | 0, _ => (Le.agg (fun j hj => match j, hj with | 0, _ => (Le.of_eq ?_) | 1, _ => (Le.of_eq ?_) | 2, _ => (Le.of_eq ?_) | 3, _ => (Le.of_eq ?_) | 4, _ => (Le.of_eq ?_) | 5, _ => (Le.of_eq ?_) | 6, _ => (Le.of_eq ?_) | 7, _ => (Le.of_eq ?_) )) | 1, _ => (Le.of_eq ?_) )))
    all_goals first | rfl | (show AV.int _ _ = AV.int _ _; rw [e])
theorem c_planned_f (R : Res) (x : Ix) (gl : KL Rng) (l : KL Int) (hp : List AObj) (g : R.σ) (h : plannedB x l.l = false) (hs : small x) (h8 : x.l.length ≤ 8) : Does Tryd.prog R 48 [encMkt x gl, encI l] hp g (.ret (.tup 2 (nth [.agg 8 (fun _ => .any), .bool false]))) hp g := by
 have w1 := hs.1
 have w2 := hs.2
 refine does_any' (fun R g => ?_) (by exact ⟨⟨⟨trivial, trivial⟩, trivial⟩, ⟨trivial, trivial⟩⟩) R hp g
 refine spec_of_wp (nt := 41) (rs := [.cell 4 89, .tmp 5]) (k0 := 0) (by kernel_rfl) (by kernel_rfl) (by kernel_rfl) rfl ?_
 refine vcQ [] (lkL [(0, [1, 2, 4]), (1, [1, 2, 4, 6]), (2, [1, 2, 4, 6, 15]), (3, [4, 5]), (4, [2, 4, 6, 17, 18, 19])]) (lkL [(3, [(1, ROrc.val (Orc.obj (nth [int i64 0, int i64 0, int i64 0, int i64 0, int i64 0, int i64 0, int i64 0, int i64 0])))])]) (fun Q => (fun (u1 : List AV) => (fun (u2 : List AObj) => (fun (u3 : Bool) => 1 ≤ 2 ∧ (u3 = true → 8 ≤ 8 ∧ 8 ≤ 8 ∧ (∀ (c : Nat), c < 8 → nth u1 c = over (nth u1) 0 8 (List.brecOn (motive := fun (x : List AV) => Nat → AV) u1 nth._f) c) ∧ Q AEx.ret (St.mk [(4, ref 1 0), (5, AV.bool false)] u2 g)) ∧ (u3 = false → Wp Tryd.prog R 41 0 Rd.top (bodyOf Tryd.prog 48) [1, 1, 1, 0, 1, 0] (contQ Tryd.prog R 41 0 Rd.top (bodyOf Tryd.prog 48) Q [Kont.blk 0, Kont.seq [1, 1, 1, 1]]) (St.mk [(2, ref 0 0), (4, ref 1 0), (6, ref 2 0), (17, encI l), (18, int i64 (l.l.length : Int)), (19, int i64 0)] u2 g))) ((l.l.length : Int) != (x.l.length : Int))) ([cells false 2 (nth [encPacks x, encR gl]), cells false 8 (nth u1), cells false 8 (nth u1)])) ([int i64 0, int i64 0, int i64 0, int i64 0, int i64 0, int i64 0, int i64 0, int i64 0])) (fun _ => by kernel_rfl) ⟨(by omega), ⟨fun c1 => have c1 : ¬(l.l.length : Int) = (x.l.length : Int) := (bne_iff_ne.mp c1); ⟨(by omega), ⟨(by omega), ⟨(fun c hc => match c, hc with | 0, _ => (by kernel_rfl) | 1, _ => (by kernel_rfl) | 2, _ => (by kernel_rfl) | 3, _ => (by kernel_rfl) | 4, _ => (by kernel_rfl) | 5, _ => (by kernel_rfl) | 6, _ => (by kernel_rfl) | 7, _ => (by kernel_rfl) ), ?_⟩⟩⟩, fun c1 => have c1 : (l.l.length : Int) = (x.l.length : Int) := (bne_eq_false_iff_eq.mp c1); ?_⟩⟩
 ·refine (retQ_le (retQ_drop (tup 2 (nth [agg 8 (nth [int i64 0, int i64 0, int i64 0, int i64 0, int i64 0, int i64 0, int i64 0, int i64 0]), AV.bool false])) ([0 + (TyI.mk ((fun (x : TypeInfo) => x.desc) Tryd.prog.types[88]) Tryd.prog.types[89].size Tryd.prog.types[89].bytes (cellA (ofVal (Value.agg #[Value.int i64 0, Value.int i64 0, Value.int i64 0, Value.int i64 0, Value.int i64 0, Value.int i64 0, Value.int i64 0, Value.int i64 0]))) (isAggD ((fun (x : TypeInfo) => x.desc) Tryd.prog.types[88])) (flatTy Tryd.prog 89)).size ≤ 8]) (by kernel_rfl) (by exact ⟨(by decide), trivial⟩) ⟨⟨trivial, ⟨⟨⟨⟨⟨⟨⟨⟨trivial, trivial⟩, trivial⟩, trivial⟩, trivial⟩, trivial⟩, trivial⟩, trivial⟩, trivial⟩⟩, trivial⟩ rfl) (Le.tup (fun j hj => match j, hj with | 0, _ => (Le.agg (fun j hj => match j, hj with | 0, _ => (Le.any _) | 1, _ => (Le.any _) | 2, _ => (Le.any _) | 3, _ => (Le.any _) | 4, _ => (Le.any _) | 5, _ => (Le.any _) | 6, _ => (Le.any _) | 7, _ => (Le.any _) )) | 1, _ => (Le.of_eq (by kernel_rfl)) )))
 ·have hl : l.l.length = x.l.length := by omega
  refine (wp_loop (by kernel_rfl) (fun (i : Nat) => ⟨[(2, ref 0 0), (4, ref 1 0), (6, ref 2 0), (17, encI l), (18, int i64 (l.l.length : Int)), (19, .int .i64 (i : Int))], [.cells false 2 (nth [encPacks x, encR gl]), .cells false 8 (fun _ => .int .i64 0), .cells false 8 (fun j => .int .i64 (planOf l.l i j))], g⟩) (fun (i : Nat) => (i ≤ x.l.length ∧ ∀ j, j < i → -1 ≤ l.l.getD j 0 ∧ l.l.getD j 0 < ((x.l.getD j default).l.length : Int))) (fun (i : Nat) => (x.l.length - i)) 0 (to_le ⟨(Le.refl _), ⟨(Le.refl _), ⟨(Le.refl _), ⟨(Le.refl _), ⟨(Le.refl _), ⟨(Le.of_eq (by kernel_rfl)), trivial⟩⟩⟩⟩⟩⟩ ⟨LeO.rflc, ⟨⟨rfl, Nat.le_refl _, fun j hj => match j, hj with | 0, _ => (Le.refl _) | 1, _ => (Le.refl _) | 2, _ => (Le.refl _) | 3, _ => (Le.refl _) | 4, _ => (Le.refl _) | 5, _ => (Le.refl _) | 6, _ => (Le.refl _) | 7, _ => (Le.refl _) ⟩, ⟨⟨rfl, Nat.le_refl _, fun j hj => match j, hj with | 0, _ => (Le.of_eq (by kernel_rfl)) | 1, _ => (Le.of_eq (by kernel_rfl)) | 2, _ => (Le.of_eq (by kernel_rfl)) | 3, _ => (Le.of_eq (by kernel_rfl)) | 4, _ => (Le.of_eq (by kernel_rfl)) | 5, _ => (Le.of_eq (by kernel_rfl)) | 6, _ => (Le.of_eq (by kernel_rfl)) | 7, _ => (Le.of_eq (by kernel_rfl)) ⟩, trivial⟩⟩⟩ rfl) ?_ (fun i hi => ?_))
  ·exact ⟨Nat.zero_le _, fun j hj => absurd hj (by omega)⟩
  ·obtain ⟨h1, h2⟩ := hi
   have w3 := w2 i
   refine vcQ [] (lkL [(5, [2, 4, 6, 17, 18, 19, 20]), (6, [2, 4, 6, 7, 8, 17, 18, 19]), (7, [2, 4, 6, 7, 8, 17, 18, 19, 34]), (8, [4, 5]), (9, [2, 4, 6, 17, 18, 19]), (10, [2, 4, 6, 17, 18, 19])]) (lkL [(7, [(9, ROrc.pcall (AV.bool (decide (-1 ≤ l.l.getD i 0 ∧ l.l.getD i 0 ≤ (↑((x.l.getD i default).l.length) : Int) - 1))))]), (8, [(1, ROrc.val (Orc.obj fun (j : Nat) => int i64 (planOf l.l i j)))])]) (fun Q => (fun (u1 : Int) => (fun (u2 : Int) => (fun (u3 : Int) => (fun (u4 : Int) => (fun (u5 : AObj) => (fun (u6 : AObj) => (fun (u7 : Bool) => (decide (u4 < u3) = true → (0 ≤ u4 ∧ u4 < u3) ∧ 1 ≤ 1 ∧ 1 ≤ 2 ∧ (0 ≤ u4 ∧ u4 < (x.l.length : Int)) ∧ 1 ≤ 1 ∧ (-9223372036854775808 ≤ u1 ∧ u1 ≤ 9223372036854775807) ∧ (∀ (hp : List AObj) (g : R.σ), true = true ∧ Does Tryd.prog R 41 [int i64 u2, int i64 (-1), int i64 u1] hp g (ret (AV.bool u7)) hp g) ∧ ((!u7) = true → 8 ≤ 8 ∧ 8 ≤ 8 ∧ (∀ (c : Nat), c < 8 → int i64 (planOf l.l i c) = over (fun (x : Nat) => int i64 0) 0 8 (fun (j : Nat) => int i64 (planOf l.l i j)) c) ∧ Q AEx.ret (St.mk [(4, ref 1 0), (5, AV.bool false)] [u6, u5, u5] g)) ∧ ((!u7) = false → (0 ≤ u4 ∧ u4 < (↑8 : Int)) ∧ i + 1 ≤ 8 ∧ (-9223372036854775808 ≤ u4 + 1 ∧ u4 + 1 ≤ 9223372036854775807) ∧ Q AEx.normal (St.mk [(2, ref 0 0), (4, ref 1 0), (6, ref 2 0), (17, encI l), (18, int i64 u3), (19, int i64 (u4 + 1))] [u6, cells false 8 fun (x : Nat) => int i64 0, cells false 8 (over (fun (j : Nat) => int i64 (planOf l.l i j)) i 1 fun (x : Nat) => int i64 u2)] g))) ∧ (decide (u4 < u3) = false → Q (AEx.exit 0) (St.mk [(2, ref 0 0), (4, ref 1 0), (6, ref 2 0), (17, encI l), (18, int i64 u3), (19, int i64 u4), (20, AV.bool (decide (u4 < u3)))] [u6, cells false 8 fun (x : Nat) => int i64 0, u5] g))) (decide (-1 ≤ u2 ∧ u2 ≤ u1))) (cells false 2 (nth [encPacks x, encR gl]))) (cells false 8 fun (j : Nat) => int i64 (planOf l.l i j))) ((i : Int))) ((l.l.length : Int))) (l.l.getD i 0)) ((↑((x.l.getD i default).l.length) : Int) - 1)) (fun _ => by kernel_rfl) ⟨fun c1 => have c1 : (i : Int) < (l.l.length : Int) := (of_decide_eq_true c1); ⟨(by omega), ⟨(by omega), ⟨(by omega), ⟨(by omega), ⟨(by omega), ⟨(by omega), ⟨(fun _ _ => ⟨rfl, (Go.Avm.Pack.c_within _ _ _ _ _ _)⟩), ⟨fun c2 => have c2 : ¬(-1 ≤ l.l.getD i 0 ∧ l.l.getD i 0 ≤ (↑((x.l.getD i default).l.length) : Int) - 1) := (of_decide_eq_false ((Bool.not_eq_true' _).mp c2)); ⟨(by omega), ⟨(by omega), ⟨(fun c hc => match c, hc with | 0, _ => (by kernel_rfl) | 1, _ => (by kernel_rfl) | 2, _ => (by kernel_rfl) | 3, _ => (by kernel_rfl) | 4, _ => (by kernel_rfl) | 5, _ => (by kernel_rfl) | 6, _ => (by kernel_rfl) | 7, _ => (by kernel_rfl) ), ?_⟩⟩⟩, fun c2 => have c2 : -1 ≤ l.l.getD i 0 ∧ l.l.getD i 0 ≤ (↑((x.l.getD i default).l.length) : Int) - 1 := (of_decide_eq_true ((Bool.not_eq_false' _).mp c2)); ⟨(by omega), ⟨(by omega), ⟨(by omega), ?_⟩⟩⟩⟩⟩⟩⟩⟩⟩⟩⟩, fun c1 => have c1 : ¬(i : Int) < (l.l.length : Int) := (of_decide_eq_false c1); ?_⟩
   ·refine ⟨_, To.refl _, (retQ_le (retQ_drop (tup 2 (nth [agg 8 fun (j : Nat) => int i64 (planOf l.l i j), AV.bool false])) ([0 + (TyI.mk ((fun (x : TypeInfo) => x.desc) Tryd.prog.types[88]) Tryd.prog.types[89].size Tryd.prog.types[89].bytes (cellA (ofVal (Value.agg #[Value.int i64 0, Value.int i64 0, Value.int i64 0, Value.int i64 0, Value.int i64 0, Value.int i64 0, Value.int i64 0, Value.int i64 0]))) (isAggD ((fun (x : TypeInfo) => x.desc) Tryd.prog.types[88])) (flatTy Tryd.prog 89)).size ≤ 8]) (by kernel_rfl) (by exact ⟨(by decide), trivial⟩) ⟨⟨trivial, ⟨⟨⟨⟨⟨⟨⟨⟨trivial, trivial⟩, trivial⟩, trivial⟩, trivial⟩, trivial⟩, trivial⟩, trivial⟩, trivial⟩⟩, trivial⟩ rfl) (Le.tup (fun j hj => match j, hj with | 0, _ => (Le.agg (fun j hj => match j, hj with | 0, _ => (Le.any _) | 1, _ => (Le.any _) | 2, _ => (Le.any _) | 3, _ => (Le.any _) | 4, _ => (Le.any _) | 5, _ => (Le.any _) | 6, _ => (Le.any _) | 7, _ => (Le.any _) )) | 1, _ => (Le.of_eq (by kernel_rfl)) )))⟩
   ·refine (next_round (i + 1) (to_le ⟨(Le.refl _), ⟨(Le.refl _), ⟨(Le.refl _), ⟨(Le.refl _), ⟨(Le.refl _), ⟨(Le.of_eq (by kernel_rfl)), trivial⟩⟩⟩⟩⟩⟩ ⟨LeO.rflc, ⟨LeO.rflc, ⟨(LeO.cells (fun j hj => ?_)), trivial⟩⟩⟩ rfl) ?_ ?_)
    ·rw [over_eq]
     unfold planOf
     split
     ·rename_i hj
      have : j = i := by omega
      subst this
      rw [if_pos (by omega)]
     ·rename_i hj
      by_cases hji : j < i
      ·rw [if_pos hji, if_pos (by omega)]
      ·rw [if_neg hji, if_neg (by omega)]
    ·refine ⟨by omega, fun j hj => ?_⟩
     rcases Nat.lt_or_ge j i with h | h
     ·exact h2 j h
     ·have : j = i := by omega
      subst this
      omega
    ·omega
   ·have : plannedB x l.l = true := plannedB_iff.2 ⟨hl, fun j hj => h2 j (by omega)⟩
    rw [this] at h; cases h
def noRel : Rel := ⟨⟨[], .nil⟩, ⟨[], .nil⟩⟩
def relOf (x : Ix) (p : Nat → Int) (i : Nat) : Rel := if p i = -1 then noRel else (x.l.getD i default).l.getD (p i).toNat default
theorem c_release_n (R : Res) (x : Ix) (gl : KL Rng) (p : Nat → Int) (i : Nat) (hp : List AObj) (g : R.σ) (h : (p i == -1) = true) (hi : i < 8) : Does Tryd.prog R 99 [encMkt x gl, encPlan p, .int .i64 i] hp g (.ret (.tup 2 (nth [encRel noRel, .bool false]))) hp g := by
 have h : p i = -1 := by simpa using h
 refine does_any' (fun R g => ?_) (by exact ⟨⟨⟨trivial, trivial⟩, trivial⟩, ⟨⟨⟨⟨⟨⟨⟨⟨⟨trivial, trivial⟩, trivial⟩, trivial⟩, trivial⟩, trivial⟩, trivial⟩, trivial⟩, trivial⟩, ⟨trivial, trivial⟩⟩⟩) R hp g
 refine spec_of_wp (nt := 24) (rs := [.cell 6 45, .tmp 7]) (k0 := 0) (by kernel_rfl) (by kernel_rfl) (by kernel_rfl) rfl ?_
 refine vcQ [] (lkL [(0, [2, 3, 4, 6]), (1, [2, 3, 4, 6, 11]), (2, [6, 7]), (3, [6, 7])]) (lkL [(2, [(1, ROrc.val (Orc.obj (nth [fz Fz.nil 0 0 fun _ _ => any, fz Fz.nil 0 0 fun _ _ => any])))]), (3, [(11, ROrc.val (Orc.obj (nth [encR ((x.l.getD i default).l.getD ((p i).toNat) default).needs, encR ((x.l.getD i default).l.getD ((p i).toNat) default).bars])))])]) (fun Q => (fun (u1 : AV) => (fun (u2 : Rel) => (fun (u3 : List AV) => (fun (u4 : Int) => (0 ≤ u4 ∧ u4 < (↑8 : Int)) ∧ i + 1 ≤ 8 ∧ ((p i == -1) = true → 2 ≤ 2 ∧ (∀ (c : Nat), c < 2 → nth [u1, u1] c = over (nth [u1, u1]) 0 2 (List.brecOn (motive := fun (x : List AV) => Nat → AV) [u1, u1] nth._f) c) ∧ Q AEx.ret (St.mk [(6, ref 2 0), (7, AV.bool false)] [cells false 2 (nth [encPacks x, encR gl]), cells false 8 fun (a : Nat) => int i64 (p a), cells false 2 (nth [u1, u1])] g)) ∧ ((p i == -1) = false → Tables.follows Tryd.prog.toTables Departure.mixedOrders = true ∧ 1 ≤ 2 ∧ (0 ≤ u4 ∧ u4 < (x.l.length : Int)) ∧ 1 ≤ 1 ∧ (0 ≤ u4 ∧ u4 < (↑8 : Int)) ∧ i + 1 ≤ 8 ∧ (0 ≤ p i ∧ p i < (↑((x.l.getD i default).l.length) : Int)) ∧ 2 ≤ 2 ∧ 2 ≤ 2 ∧ (∀ (c : Nat), c < 2 → nth u3 c = over (nth [u1, u1]) 0 2 (List.brecOn (motive := fun (x : List AV) => Nat → AV) u3 nth._f) c) ∧ Q AEx.ret (St.mk [(6, ref 2 0), (7, AV.bool true)] [cells false 2 (nth [encPacks x, encR gl]), cells false 8 fun (a : Nat) => int i64 (p a), cells false 2 (nth u3)] g))) ((i : Int))) ([encR u2.needs, encR u2.bars])) ((x.l.getD i default).l.getD ((p i).toNat) default)) (fz Fz.nil 0 0 fun _ _ => any)) (fun _ => by kernel_rfl) ⟨(by omega), ⟨(by omega), ⟨fun c1 => have c1 : p i = -1 := (beq_iff_eq.mp c1); ⟨(by omega), ⟨(fun c hc => match c, hc with | 0, _ => (by kernel_rfl) | 1, _ => (by kernel_rfl) ), ?_⟩⟩, fun c1 => have c1 : ¬p i = -1 := (beq_eq_false_iff_ne.mp c1); ⟨(by kernel_rfl), ⟨(by omega), ⟨(by omega), ⟨(by omega), ⟨(by omega), ⟨(by omega), ⟨(by omega), ⟨(by omega), ⟨(by omega), ⟨(fun c hc => match c, hc with | 0, _ => (by kernel_rfl) | 1, _ => (by kernel_rfl) ), ?_⟩⟩⟩⟩⟩⟩⟩⟩⟩⟩⟩⟩⟩
 ·refine (retQ_le (retQ_drop (tup 2 (nth [agg 2 (nth [fz Fz.nil 0 0 fun _ _ => any, fz Fz.nil 0 0 fun _ _ => any]), AV.bool false])) ([0 + (TyI.mk ((fun (x : TypeInfo) => x.desc) Tryd.prog.types[44]) Tryd.prog.types[45].size Tryd.prog.types[45].bytes (cellA (ofVal (Value.agg #[Value.slice none 0 0, Value.slice none 0 0]))) (isAggD ((fun (x : TypeInfo) => x.desc) Tryd.prog.types[44])) (flatTy Tryd.prog 45)).size ≤ 2]) (by kernel_rfl) (by exact ⟨(by decide), trivial⟩) ⟨⟨trivial, ⟨⟨trivial, trivial⟩, trivial⟩⟩, trivial⟩ rfl) (Le.tup (fun j hj => match j, hj with | 0, _ => (Le.agg (fun j hj => match j, hj with | 0, _ => Le.nil | 1, _ => Le.nil )) | 1, _ => (Le.of_eq (by kernel_rfl)) )))
 ·omega
theorem c_release_s (R : Res) (x : Ix) (gl : KL Rng) (p : Nat → Int) (i : Nat) (hp : List AObj) (g : R.σ) (h : (p i == -1) = false) (hi : i < 8) (hx : i < x.l.length) (h0 : -1 ≤ p i) (h1 : p i < (x.l.getD i default).l.length) : Does Tryd.prog R 99 [encMkt x gl, encPlan p, .int .i64 i] hp g (.ret (.tup 2 (nth [encRel ((x.l.getD i default).l.getD (p i).toNat default), .bool true]))) hp g := by
 have h : ¬ p i = -1 := by simpa using h
 refine does_any' (fun R g => ?_) (by exact ⟨⟨⟨trivial, trivial⟩, trivial⟩, ⟨⟨⟨⟨⟨⟨⟨⟨⟨trivial, trivial⟩, trivial⟩, trivial⟩, trivial⟩, trivial⟩, trivial⟩, trivial⟩, trivial⟩, ⟨trivial, trivial⟩⟩⟩) R hp g
 refine spec_of_wp (nt := 24) (rs := [.cell 6 45, .tmp 7]) (k0 := 0) (by kernel_rfl) (by kernel_rfl) (by kernel_rfl) rfl ?_
 refine vcQ [] (lkL [(0, [2, 3, 4, 6]), (1, [2, 3, 4, 6, 11]), (2, [6, 7]), (3, [6, 7])]) (lkL [(2, [(1, ROrc.val (Orc.obj (nth [fz Fz.nil 0 0 fun _ _ => any, fz Fz.nil 0 0 fun _ _ => any])))]), (3, [(11, ROrc.val (Orc.obj (nth [encR ((x.l.getD i default).l.getD ((p i).toNat) default).needs, encR ((x.l.getD i default).l.getD ((p i).toNat) default).bars])))])]) (fun Q => (fun (u1 : AV) => (fun (u2 : Rel) => (fun (u3 : List AV) => (fun (u4 : Int) => (0 ≤ u4 ∧ u4 < (↑8 : Int)) ∧ i + 1 ≤ 8 ∧ ((p i == -1) = true → 2 ≤ 2 ∧ (∀ (c : Nat), c < 2 → nth [u1, u1] c = over (nth [u1, u1]) 0 2 (List.brecOn (motive := fun (x : List AV) => Nat → AV) [u1, u1] nth._f) c) ∧ Q AEx.ret (St.mk [(6, ref 2 0), (7, AV.bool false)] [cells false 2 (nth [encPacks x, encR gl]), cells false 8 fun (a : Nat) => int i64 (p a), cells false 2 (nth [u1, u1])] g)) ∧ ((p i == -1) = false → Tables.follows Tryd.prog.toTables Departure.mixedOrders = true ∧ 1 ≤ 2 ∧ (0 ≤ u4 ∧ u4 < (x.l.length : Int)) ∧ 1 ≤ 1 ∧ (0 ≤ u4 ∧ u4 < (↑8 : Int)) ∧ i + 1 ≤ 8 ∧ (0 ≤ p i ∧ p i < (↑((x.l.getD i default).l.length) : Int)) ∧ 2 ≤ 2 ∧ 2 ≤ 2 ∧ (∀ (c : Nat), c < 2 → nth u3 c = over (nth [u1, u1]) 0 2 (List.brecOn (motive := fun (x : List AV) => Nat → AV) u3 nth._f) c) ∧ Q AEx.ret (St.mk [(6, ref 2 0), (7, AV.bool true)] [cells false 2 (nth [encPacks x, encR gl]), cells false 8 fun (a : Nat) => int i64 (p a), cells false 2 (nth u3)] g))) ((i : Int))) ([encR u2.needs, encR u2.bars])) ((x.l.getD i default).l.getD ((p i).toNat) default)) (fz Fz.nil 0 0 fun _ _ => any)) (fun _ => by kernel_rfl) ⟨(by omega), ⟨(by omega), ⟨fun c1 => have c1 : p i = -1 := (beq_iff_eq.mp c1); ⟨(by omega), ⟨(fun c hc => match c, hc with | 0, _ => (by kernel_rfl) | 1, _ => (by kernel_rfl) ), ?_⟩⟩, fun c1 => have c1 : ¬p i = -1 := (beq_eq_false_iff_ne.mp c1); ⟨(by kernel_rfl), ⟨(by omega), ⟨(by omega), ⟨(by omega), ⟨(by omega), ⟨(by omega), ⟨(by omega), ⟨(by omega), ⟨(by omega), ⟨(fun c hc => match c, hc with | 0, _ => (by kernel_rfl) | 1, _ => (by kernel_rfl) ), ?_⟩⟩⟩⟩⟩⟩⟩⟩⟩⟩⟩⟩⟩
 ·exact absurd c1 h
 ·refine (retQ_le (retQ_drop (tup 2 (nth [agg 2 (nth [fz ((x.l.getD i default).l.getD ((p i).toNat) default).needs.2 3 (((x.l.getD i default).l.getD ((p i).toNat) default).needs.l.length) fun (i_1 : Nat) => rngC (((x.l.getD i default).l.getD ((p i).toNat) default).needs.l.getD i_1 default), fz ((x.l.getD i default).l.getD ((p i).toNat) default).bars.2 3 (((x.l.getD i default).l.getD ((p i).toNat) default).bars.l.length) fun (i_1 : Nat) => rngC (((x.l.getD i default).l.getD ((p i).toNat) default).bars.l.getD i_1 default)]), AV.bool true])) ([0 + (TyI.mk ((fun (x : TypeInfo) => x.desc) Tryd.prog.types[44]) Tryd.prog.types[45].size Tryd.prog.types[45].bytes (cellA (ofVal (Value.agg #[Value.slice none 0 0, Value.slice none 0 0]))) (isAggD ((fun (x : TypeInfo) => x.desc) Tryd.prog.types[44])) (flatTy Tryd.prog 45)).size ≤ 2]) (by kernel_rfl) (by exact ⟨(by decide), trivial⟩) ⟨⟨trivial, ⟨⟨trivial, trivial⟩, trivial⟩⟩, trivial⟩ rfl) (Le.of_eq (by kernel_rfl)))
end Go.Avm.Pack
namespace Go.Avm.Pack
open Go Go.Avm Go.Proofs
open Go.IntKind (i64 u64)
open Go.Avm.AV (int bool any fz fp sl ow ref fn ifc val agg tup)
open Go.Avm.AObj (cells dead)
open Go.Avm.Oc (ret)
set_option maxRecDepth 4000
def rangesB (x : Ix) (l : List Rng) (most : Nat) (own : Int) : Bool := decide (l.length ≤ most) && l.all (otherB x own)
theorem all_take {α : Type} {q : α → Bool} {l : List α} {d : α} (h : ∀ j, j < l.length → q (l.getD j d) = true) : l.all q = true := by
 rw [List.all_eq_true]
 intro a ha
 obtain ⟨j, hj, rfl⟩ := List.getElem_of_mem ha
 have := h j hj
 simpa [List.getD, hj] using this
theorem all_not {α : Type} {q : α → Bool} {l : List α} {d : α} {j : Nat} (hj : j < l.length) (h : q (l.getD j d) = false) : l.all q = false := by
 rw [List.all_eq_false]
 exact ⟨l.getD j d, getD_mem l d hj, by rw [h]; simp⟩
theorem c_ranges (R : Res) (x : Ix) (l : KL Rng) (most : Nat) (own : Int) (hp : List AObj) (g : R.σ) (hs : small x) (hl : l.l.length < 1000000) (hm : most < 1000000) : Does Tryd.prog R 45 [encIx x, encR l, .int .i64 most, .int .i64 own] hp g (.ret (.bool (rangesB x l.l most own))) hp g := by
 refine does_any' (fun R g => ?_) (by exact ⟨⟨trivial, trivial⟩, ⟨trivial, ⟨trivial, ⟨trivial, trivial⟩⟩⟩⟩) R hp g
 refine spec_of_wp (nt := 41) (rs := [.tmp 8]) (k0 := 0) (by kernel_rfl) (by kernel_rfl) (by kernel_rfl) rfl ?_
 refine vcQ [] (lkL [(0, [1, 2, 3, 4]), (1, [1, 2, 3, 4, 9])]) (fun _ => []) (fun Q => Wp Tryd.prog R 41 0 Rd.top (bodyOf Tryd.prog 45) [1, 0, 1, 0] (contQ Tryd.prog R 41 0 Rd.top (bodyOf Tryd.prog 45) Q [Kont.blk 0, Kont.seq [1, 1]]) (St.mk [(1, encR l), (2, int i64 (most : Int)), (3, int i64 own), (4, ref 0 0), (9, int i64 0)] [cells false 1 (nth [encPacks x])] g)) (fun _ => by kernel_rfl) (?_)
 refine (wp_loop (by kernel_rfl) (fun (i : Nat) => ⟨[(1, encR l), (2, int i64 (most : Int)), (3, int i64 own), (4, ref 0 0), (9, .int .i64 (i : Int))], [cells false 1 (nth [encPacks x])], g⟩) (fun (i : Nat) => (i ≤ l.l.length ∧ ∀ j, j < i → otherB x own (l.l.getD j default) = true)) (fun (i : Nat) => (l.l.length - i)) 0 (to_fr ⟨(Le.refl _), ⟨(Le.refl _), ⟨(Le.refl _), ⟨(Le.refl _), ⟨(Le.of_eq (by kernel_rfl)), trivial⟩⟩⟩⟩⟩ rfl rfl) ?_ (fun i hi => ?_))
 ·exact ⟨Nat.zero_le _, fun j hj => absurd hj (by omega)⟩
 ·obtain ⟨h1, h2⟩ := hi
  refine vcQ [] (lkL [(2, [1, 2, 3, 4, 9, 18]), (4, [1, 2, 3, 4, 9, 36]), (5, [8]), (3, [1, 2, 3, 4, 9])]) (lkL [(4, [(5, ROrc.pcall (AV.bool (rangedB x (l.l.getD i default))))])]) (fun Q => (fun (u1 : Bool) => (fun (u2 : Rng) => (fun (u3 : Int) => (fun (u4 : AObj) => (u1 = true → Tables.follows Tryd.prog.toTables Departure.mixedOrders = true ∧ 1 ≤ 1 ∧ (0 ≤ u3 ∧ u3 < (l.l.length : Int)) ∧ 3 ≤ 3 ∧ (∀ (hp : List AObj) (g : R.σ), true = true ∧ Does Tryd.prog R 80 [encIx x, encRng u2] hp g (ret (AV.bool (rangedB x u2))) hp g) ∧ ((!!rangedB x u2) = true → 0 ≤ u3 ∧ u3 < (l.l.length : Int)) ∧ ((!!rangedB x u2) = true → 1 ≤ 3) ∧ ((bif !rangedB x u2 then true else u2.pack == own) = true → Q AEx.ret (St.mk [(8, AV.bool false)] [u4] g)) ∧ ((bif !rangedB x u2 then true else u2.pack == own) = false → (-9223372036854775808 ≤ u3 + 1 ∧ u3 + 1 ≤ 9223372036854775807) ∧ Q AEx.normal (St.mk [(1, encR l), (2, int i64 (most : Int)), (3, int i64 own), (4, ref 0 0), (9, int i64 (u3 + 1))] [u4] g))) ∧ (u1 = false → Q (AEx.exit 0) (St.mk [(1, encR l), (2, int i64 (most : Int)), (3, int i64 own), (4, ref 0 0), (9, int i64 u3), (18, AV.bool u1)] [u4] g))) (cells false 1 (nth [encPacks x]))) ((i : Int))) (l.l.getD i default)) (bif decide ((i : Int) < (l.l.length : Int)) then decide ((i : Int) < (most : Int)) else false)) (fun _ => by kernel_rfl) ⟨fun c1 => have c1 : (i : Int) < (l.l.length : Int) ∧ (i : Int) < (most : Int) := ⟨(of_decide_eq_true (cA_t c1).1), (of_decide_eq_true (cA_t c1).2)⟩; ⟨(by kernel_rfl), ⟨(by omega), ⟨(by omega), ⟨(by omega), ⟨(fun _ _ => ⟨rfl, (Go.Avm.Pack.c_Range _ _ _ _ _ (by omega))⟩), ⟨(by omega), ⟨(by omega), ⟨fun c2 => have c2 : rangedB x (l.l.getD i default) = false ∨ (l.l.getD i default).pack = own := ((cO_t c2).imp (fun h => ((Bool.not_eq_true' _).mp h)) (fun h => (beq_iff_eq.mp h))); ?_, fun c2 => have c2 : rangedB x (l.l.getD i default) = true ∧ ¬(l.l.getD i default).pack = own := ⟨((Bool.not_eq_false' _).mp (cO_f c2).1), (beq_eq_false_iff_ne.mp (cO_f c2).2)⟩; ⟨(by omega), ?_⟩⟩⟩⟩⟩⟩⟩⟩⟩, fun c1 => have c1 : ¬(i : Int) < (l.l.length : Int) ∨ ¬(i : Int) < (most : Int) := ((cA_f c1).imp (fun h => (of_decide_eq_false h)) (fun h => (of_decide_eq_false h))); ?_⟩
  ·refine ⟨_, To.refl _, (retQ_le (retQ_drop _ _ rfl trivial trivial rfl) (Le.of_eq ?_))⟩
   show (AV.bool false) = _
   have : otherB x own (l.l.getD i default) = false := by
    unfold otherB
    rcases c2 with h | h
    ·rw [h]; rfl
    ·rw [bne_eq_false_iff_eq.mpr h, Bool.and_false]
   unfold rangesB
   rw [all_not (by omega) this, Bool.and_false]
  ·refine (next_round (i + 1) (to_fr ⟨(Le.refl _), ⟨(Le.refl _), ⟨(Le.refl _), ⟨(Le.refl _), ⟨(Le.of_eq (by kernel_rfl)), trivial⟩⟩⟩⟩⟩ rfl rfl) ?_ ?_)
   ·refine ⟨by omega, fun j hj => ?_⟩
    rcases Nat.lt_or_ge j i with h | h
    ·exact h2 j h
    ·have : j = i := by omega
     subst this
     unfold otherB
     rw [c2.1]
     have := c2.2
     simpa using this
   ·omega
  ·refine ⟨_, To.refl _, vcQ [] (lkL [(6, [8])]) (fun _ => []) (fun Q => Q AEx.ret (St.mk [(8, AV.bool (decide ((l.l.length : Int) ≤ (most : Int))))] [cells false 1 (nth [encPacks x])] g)) (fun _ => by kernel_rfl) (?_)⟩
   refine (retQ_le (retQ_drop _ _ rfl trivial trivial rfl) (Le.of_eq ?_))
   show (AV.bool (decide ((↑(List.length l.l) : Int) ≤ (↑most : Int)))) = _
   congr 1
   unfold rangesB
   by_cases hm : l.l.length ≤ most
   ·rw [all_take (d := default) (fun j hj => h2 j (by omega))]
    simp [hm]
   ·simp [hm]
theorem otherB_neg {x : Ix} {r : Rng} : otherB x (-1) r = rangedB x r := by
 unfold otherB rangedB
 rw [Bool.eq_iff_iff]
 simp
 omega
theorem c_Goals (R : Res) (x : Ix) (l : KL Rng) (hp : List AObj) (g : R.σ) (hs : small x) (hl : l.l.length < 1000000) : Does Tryd.prog R 68 [encIx x, encR l] hp g (.ret (.bool (decide (l.l.length ≤ 4) && l.l.all (rangedB x)))) hp g := by
 refine does_any' (fun R g => ?_) (by exact ⟨⟨trivial, trivial⟩, ⟨trivial, trivial⟩⟩) R hp g
 refine spec_of_wp (nt := 8) (rs := [.tmp 4]) (k0 := 0) (by kernel_rfl) (by kernel_rfl) (by kernel_rfl) rfl ?_
 refine vcQ [] (lkL [(0, [1, 2]), (1, [4])]) (lkL [(1, [(2, ROrc.pcall (AV.bool (rangesB x l.l 4 (-1))))])]) (fun Q => 1 ≤ 1 ∧ (∀ (hp : List AObj) (g : R.σ), true = true ∧ Does Tryd.prog R 45 [encIx x, encR l, int i64 4, int i64 (-1)] hp g (ret (AV.bool (rangesB x l.l 4 (-1)))) hp g) ∧ Q AEx.ret (St.mk [(4, AV.bool (rangesB x l.l 4 (-1)))] [cells false 1 (nth [encPacks x])] g)) (fun _ => by kernel_rfl) ⟨(by omega), ⟨(fun _ _ => ⟨rfl, (Go.Avm.Pack.c_ranges _ _ _ _ _ _ _ (by omega) (by omega) (by decide))⟩), ?_⟩⟩
 refine (retQ_le (retQ_drop _ _ rfl trivial trivial rfl) (Le.of_eq ?_))
 show (AV.bool (rangesB x l.l 4 (-1))) = _
 unfold rangesB
 congr 3
 funext r
 exact otherB_neg
theorem c_Plan (R : Res) (x : Ix) (l : KL Int) (hp : List AObj) (g : R.σ) (hs : small x) (hl : l.l.length < 1000000) : Does Tryd.prog R 30 [encIx x, encI l] hp g (.ret (.bool (plannedB x l.l))) hp g := by
 have w1 := hs.1
 have w2 := hs.2
 refine does_any' (fun R g => ?_) (by exact ⟨⟨trivial, trivial⟩, ⟨trivial, trivial⟩⟩) R hp g
 refine spec_of_wp (nt := 38) (rs := [.tmp 4]) (k0 := 0) (by kernel_rfl) (by kernel_rfl) (by kernel_rfl) rfl ?_
 refine vcQ [] (lkL [(0, [1, 2]), (1, [1, 2, 5])]) (fun _ => []) (fun Q => Wp Tryd.prog R 38 0 Rd.top (bodyOf Tryd.prog 30) [1, 0, 1, 0] (contQ Tryd.prog R 38 0 Rd.top (bodyOf Tryd.prog 30) Q [Kont.blk 0, Kont.seq [1, 1]]) (St.mk [(1, encI l), (2, ref 0 0), (5, int i64 0)] [cells false 1 (nth [encPacks x])] g)) (fun _ => by kernel_rfl) (?_)
 refine (wp_loop (by kernel_rfl) (fun (i : Nat) => ⟨[(1, encI l), (2, ref 0 0), (5, .int .i64 (i : Int))], [cells false 1 (nth [encPacks x])], g⟩) (fun (i : Nat) => (i ≤ l.l.length ∧ ∀ j, j < i → j < x.l.length ∧ -1 ≤ l.l.getD j 0 ∧ l.l.getD j 0 < ((x.l.getD j default).l.length : Int))) (fun (i : Nat) => (l.l.length - i)) 0 (to_fr ⟨(Le.refl _), ⟨(Le.refl _), ⟨(Le.of_eq (by kernel_rfl)), trivial⟩⟩⟩ rfl rfl) ?_ (fun i hi => ?_))
 ·exact ⟨Nat.zero_le _, fun j hj => absurd hj (by omega)⟩
 ·obtain ⟨h1, h2⟩ := hi
  have w3 := w2 i
  refine vcQ [] (lkL [(2, [1, 2, 5, 16]), (4, [1, 2, 5, 31]), (5, [4]), (3, [1, 2, 5])]) (lkL [(4, [(11, ROrc.pcall (AV.bool (decide (-1 ≤ l.l.getD i 0 ∧ l.l.getD i 0 ≤ (↑((x.l.getD i default).l.length) : Int) - 1))))])]) (fun Q => (fun (u1 : Int) => (fun (u2 : Int) => (fun (u3 : Bool) => (fun (u4 : Int) => (fun (u5 : Bool) => (fun (u6 : AObj) => (fun (u7 : Int) => (decide (u4 < u7) = true → 1 ≤ 1) ∧ (u3 = true → Tables.follows Tryd.prog.toTables Departure.mixedOrders = true ∧ (0 ≤ u4 ∧ u4 < u7) ∧ 1 ≤ 1 ∧ 1 ≤ 1 ∧ (0 ≤ u4 ∧ u4 < (x.l.length : Int)) ∧ 1 ≤ 1 ∧ (-9223372036854775808 ≤ u1 ∧ u1 ≤ 9223372036854775807) ∧ (∀ (hp : List AObj) (g : R.σ), true = true ∧ Does Tryd.prog R 44 [int i64 u2, int i64 (-1), int i64 u1] hp g (ret (AV.bool u5)) hp g) ∧ ((!u5) = true → Q AEx.ret (St.mk [(4, AV.bool false)] [u6] g)) ∧ ((!u5) = false → (-9223372036854775808 ≤ u4 + 1 ∧ u4 + 1 ≤ 9223372036854775807) ∧ Q AEx.normal (St.mk [(1, encI l), (2, ref 0 0), (5, int i64 (u4 + 1))] [u6] g))) ∧ (u3 = false → Q (AEx.exit 0) (St.mk [(1, encI l), (2, ref 0 0), (5, int i64 u4), (16, AV.bool u3)] [u6] g))) ((l.l.length : Int))) (cells false 1 (nth [encPacks x]))) (decide (-1 ≤ u2 ∧ u2 ≤ u1))) ((i : Int))) (bif decide ((i : Int) < (l.l.length : Int)) then decide ((i : Int) < (x.l.length : Int)) else false)) (l.l.getD i 0)) ((↑((x.l.getD i default).l.length) : Int) - 1)) (fun _ => by kernel_rfl) ⟨(by omega), ⟨fun c1 => have c1 : (i : Int) < (l.l.length : Int) ∧ (i : Int) < (x.l.length : Int) := ⟨(of_decide_eq_true (cA_t c1).1), (of_decide_eq_true (cA_t c1).2)⟩; ⟨(by kernel_rfl), ⟨(by omega), ⟨(by omega), ⟨(by omega), ⟨(by omega), ⟨(by omega), ⟨(by omega), ⟨(fun _ _ => ⟨rfl, (Go.Avm.Pack.c_in _ _ _ _ _ _)⟩), ⟨fun c2 => have c2 : ¬(-1 ≤ l.l.getD i 0 ∧ l.l.getD i 0 ≤ (↑((x.l.getD i default).l.length) : Int) - 1) := (of_decide_eq_false ((Bool.not_eq_true' _).mp c2)); ?_, fun c2 => have c2 : -1 ≤ l.l.getD i 0 ∧ l.l.getD i 0 ≤ (↑((x.l.getD i default).l.length) : Int) - 1 := (of_decide_eq_true ((Bool.not_eq_false' _).mp c2)); ⟨(by omega), ?_⟩⟩⟩⟩⟩⟩⟩⟩⟩⟩, fun c1 => have c1 : ¬(i : Int) < (l.l.length : Int) ∨ ¬(i : Int) < (x.l.length : Int) := ((cA_f c1).imp (fun h => (of_decide_eq_false h)) (fun h => (of_decide_eq_false h))); ?_⟩⟩
  ·refine ⟨_, To.refl _, (retQ_le (retQ_drop _ _ rfl trivial trivial rfl) (Le.of_eq ?_))⟩
   show (AV.bool false) = _
   have : plannedB x l.l = false := by
    rw [Bool.eq_false_iff]
    intro h
    have := (plannedB_iff.1 h).2 i (by omega)
    omega
   rw [this]
  ·refine (next_round (i + 1) (to_fr ⟨(Le.refl _), ⟨(Le.refl _), ⟨(Le.of_eq (by kernel_rfl)), trivial⟩⟩⟩ rfl rfl) ?_ ?_)
   ·refine ⟨by omega, fun j hj => ?_⟩
    rcases Nat.lt_or_ge j i with h | h
    ·exact h2 j h
    ·have : j = i := by omega
     subst this
     omega
   ·omega
  ·refine ⟨_, To.refl _, vcQ [] (lkL [(6, [4])]) (fun _ => []) (fun Q => 1 ≤ 1 ∧ Q AEx.ret (St.mk [(4, AV.bool ((l.l.length : Int) == (x.l.length : Int)))] [cells false 1 (nth [encPacks x])] g)) (fun _ => by kernel_rfl) ⟨(by omega), ?_⟩⟩
   refine (retQ_le (retQ_drop _ _ rfl trivial trivial rfl) (Le.of_eq ?_))
   show (AV.bool ((↑(List.length l.l) : Int) == (↑(List.length x.l) : Int))) = _
   congr 1
   by_cases hl : l.l.length = x.l.length
   ·rw [plannedB_iff.2 ⟨hl, fun j hj => (h2 j (by omega)).2⟩]
    simp [hl]
   ·have : plannedB x l.l = false := by
     rw [Bool.eq_false_iff]
     intro h
     exact hl (plannedB_iff.1 h).1
    rw [this]
    simp
    omega
theorem dec4 (n : Nat) : decide ((n : Int) ≤ 4) = decide (n ≤ 4) := by rw [decide_eq_decide]; omega
theorem relB_eq {x : Ix} {i : Int} {r : Rel} : relB x i r = (rangesB x r.needs.l 4 i && rangesB x r.bars.l 4 i) := by
 unfold relB rangesB
 rw [dec4, dec4]
 cases decide (r.needs.l.length ≤ 4) <;> cases decide (r.bars.l.length ≤ 4) <;> cases r.needs.l.all (otherB x i) <;> cases r.bars.l.all (otherB x i) <;> rfl
theorem relsB_of {x : Ix} {i : Int} {l : List Rel} (h : l.length ≤ 5) (h2 : ∀ k, k < l.length → relB x i (l.getD k default) = true) : relsB x i l = true := by
 unfold relsB
 rw [all_take h2]
 simp [h]
theorem relsB_not {x : Ix} {i : Int} {l : List Rel} {k : Nat} (hk : k < l.length) (h2 : relB x i (l.getD k default) = false) : relsB x i l = false := by
 unfold relsB
 rw [all_not hk h2, Bool.and_false]
theorem formedB_not {x : Ix} {i : Nat} (hi : i < x.l.length) (h : relsB x i (x.l.getD i default).l = false) : formedB x = false := by
 unfold formedB
 rw [allN'_false hi h, Bool.and_false]
theorem formedB_of {x : Ix} (h : 1 ≤ x.l.length ∧ x.l.length ≤ 8) (h2 : ∀ i, i < x.l.length → relsB x i (x.l.getD i default).l = true) : formedB x = true := by
 unfold formedB
 rw [allN'_true h2]
 simp [h]
theorem c_Index (R : Res) (x : Ix) (hp : List AObj) (g : R.σ) (hs : small x) (hr : smallR x) : Does Tryd.prog R 10 [encIx x] hp g (.ret (.bool (formedB x))) hp g := by
 have w1 := hs.1
 have w2 := hs.2
 refine does_any' (fun R g => ?_) (by exact ⟨⟨trivial, trivial⟩, trivial⟩) R hp g
 refine spec_of_wp (nt := 57) (rs := [.tmp 2]) (k0 := 0) (by kernel_rfl) (by kernel_rfl) (by kernel_rfl) rfl ?_
 refine vcQ [] (lkL [(0, [1]), (1, [1, 10]), (2, [2]), (3, [1, 3])]) (lkL [(1, [(3, ROrc.pcall (AV.bool (decide (1 ≤ (x.l.length : Int) ∧ (x.l.length : Int) ≤ 8))))])]) (fun Q => (fun (u1 : Int) => (fun (u2 : Bool) => 1 ≤ 1 ∧ (∀ (hp : List AObj) (g : R.σ), true = true ∧ Does Tryd.prog R 44 [int i64 u1, int i64 1, int i64 8] hp g (ret (AV.bool u2)) hp g) ∧ ((!u2) = true → Q AEx.ret (St.mk [(2, AV.bool false)] [cells false 1 (nth [encPacks x])] g)) ∧ ((!u2) = false → Wp Tryd.prog R 57 0 Rd.top (bodyOf Tryd.prog 10) [1, 1, 0, 1, 0] (contQ Tryd.prog R 57 0 Rd.top (bodyOf Tryd.prog 10) Q [Kont.blk 0, Kont.seq [1, 1, 1]]) (St.mk [(1, ref 0 0), (3, int i64 0)] [cells false 1 (nth [encPacks x])] g))) (decide (1 ≤ u1 ∧ u1 ≤ 8))) ((x.l.length : Int))) (fun _ => by kernel_rfl) ⟨(by omega), ⟨(fun _ _ => ⟨rfl, (Go.Avm.Pack.c_in _ _ _ _ _ _)⟩), ⟨fun c1 => have c1 : ¬(1 ≤ (x.l.length : Int) ∧ (x.l.length : Int) ≤ 8) := (of_decide_eq_false ((Bool.not_eq_true' _).mp c1)); ?_, fun c1 => have c1 : 1 ≤ (x.l.length : Int) ∧ (x.l.length : Int) ≤ 8 := (of_decide_eq_true ((Bool.not_eq_false' _).mp c1)); ?_⟩⟩⟩
 ·refine (retQ_le (retQ_drop _ _ rfl trivial trivial rfl) (Le.of_eq ?_))
  show (AV.bool false) = _
  congr 1
  unfold formedB
  simp
  omega
 ·refine (wp_loop (by kernel_rfl) (fun (i : Nat) => ⟨[(1, ref 0 0), (3, .int .i64 (i : Int))], [cells false 1 (nth [encPacks x])], g⟩) (fun (i : Nat) => (i ≤ x.l.length ∧ ∀ j, j < i → relsB x j (x.l.getD j default).l = true)) (fun (i : Nat) => (x.l.length - i)) 0 (to_fr ⟨(Le.refl _), ⟨(Le.of_eq (by kernel_rfl)), trivial⟩⟩ rfl rfl) ?_ (fun i hi => ?_))
  ·exact ⟨Nat.zero_le _, fun j hj => absurd hj (by omega)⟩
  ·obtain ⟨h1, h2⟩ := hi
   have w3 := w2 i
   refine vcQ [] (lkL [(4, [1, 3, 15]), (6, [1, 3, 24]), (7, [2]), (8, [1, 3, 4])]) (fun _ => []) (fun Q => (fun (u1 : Int) => (fun (u2 : Int) => (fun (u3 : Int) => (fun (u4 : AObj) => 1 ≤ 1 ∧ (decide (u3 < u1) = true → 1 ≤ 1 ∧ (0 ≤ u3 ∧ u3 < u1) ∧ 1 ≤ 1 ∧ (decide (u2 > 5) = true → Q AEx.ret (St.mk [(2, AV.bool false)] [u4] g)) ∧ (decide (u2 > 5) = false → Wp Tryd.prog R 57 0 Rd.top (bodyOf Tryd.prog 10) [1, 1, 0, 1, 0, 0, 1, 0, 0, 1, 1, 0] (contQ Tryd.prog R 57 0 Rd.top (bodyOf Tryd.prog 10) Q [Kont.blk 2, Kont.blk 1, Kont.seq [1, 1, 0, 1, 0, 0, 1, 1]]) (St.mk [(1, ref 0 0), (3, int i64 u3), (4, int i64 0)] [u4] g))) ∧ (decide (u3 < u1) = false → Q (AEx.exit 0) (St.mk [(1, ref 0 0), (3, int i64 u3), (15, AV.bool (decide (u3 < u1)))] [u4] g))) (cells false 1 (nth [encPacks x]))) ((i : Int))) ((↑((x.l.getD i default).l.length) : Int))) ((x.l.length : Int))) (fun _ => by kernel_rfl) ⟨(by omega), ⟨fun c1 => have c1 : (i : Int) < (x.l.length : Int) := (of_decide_eq_true c1); ⟨(by omega), ⟨(by omega), ⟨(by omega), ⟨fun c2 => have c2 : (↑((x.l.getD i default).l.length) : Int) > 5 := (of_decide_eq_true c2); ?_, fun c2 => have c2 : ¬(↑((x.l.getD i default).l.length) : Int) > 5 := (of_decide_eq_false c2); ?_⟩⟩⟩⟩, fun c1 => have c1 : ¬(i : Int) < (x.l.length : Int) := (of_decide_eq_false c1); ?_⟩⟩
   ·refine ⟨_, To.refl _, (retQ_le (retQ_drop _ _ rfl trivial trivial rfl) (Le.of_eq ?_))⟩
    show (AV.bool false) = _
    have : relsB x i (x.l.getD i default).l = false := by
     unfold relsB
     have : ¬ (x.l.getD i default).l.length ≤ 5 := by omega
     simp only [this, decide_false, Bool.false_and]
    rw [formedB_not (by omega) this]
   ·have hi' := c1
    have h5 := c2
    refine (wp_loop (by kernel_rfl) (fun (k : Nat) => ⟨[(1, ref 0 0), (3, int i64 (i : Int)), (4, .int .i64 (k : Int))], [cells false 1 (nth [encPacks x])], g⟩) (fun (k : Nat) => (k ≤ (x.l.getD i default).l.length ∧ ∀ j, j < k → relB x i ((x.l.getD i default).l.getD j default) = true)) (fun (k : Nat) => ((x.l.getD i default).l.length - k)) 0 (to_fr ⟨(Le.refl _), ⟨(Le.refl _), ⟨(Le.of_eq (by kernel_rfl)), trivial⟩⟩⟩ rfl rfl) ?_ (fun k hi => ?_))
    ·exact ⟨Nat.zero_le _, fun j hj => absurd hj (by omega)⟩
    ·obtain ⟨k1, k2⟩ := hi
     have w4 := hr i k
     refine vcQ [] (lkL [(9, [1, 3, 4, 32]), (11, [1, 3, 4, 5]), (12, [1, 3, 4, 56]), (13, [2]), (10, [1, 3, 4])]) (lkL [(11, [(9, ROrc.val (Orc.obj (nth [encR ((x.l.getD i default).l.getD k default).needs, encR ((x.l.getD i default).l.getD k default).bars])))]), (12, [(4, ROrc.pcall (AV.bool (rangesB x ((x.l.getD i default).l.getD k default).needs.l 4 (i : Int)))), (11, ROrc.pcall (AV.bool (rangesB x ((x.l.getD i default).l.getD k default).bars.l 4 (i : Int))))])]) (fun Q => (fun (u1 : Rel) => (fun (u2 : Int) => (fun (u3 : Bool) => (fun (u4 : Int) => (fun (u5 : Int) => (fun (u6 : List AObj) => 1 ≤ 1 ∧ (0 ≤ u5 ∧ u5 < (x.l.length : Int)) ∧ 1 ≤ 1 ∧ (decide (u4 < u2) = true → 1 ≤ 1 ∧ (0 ≤ u5 ∧ u5 < (x.l.length : Int)) ∧ 1 ≤ 1 ∧ (0 ≤ u4 ∧ u4 < u2) ∧ 2 ≤ 2 ∧ 2 ≤ 2 ∧ (∀ (c : Nat), c < 2 → nth [encR u1.needs, encR u1.bars] c = over (nth [fz Fz.nil 0 0 fun (x x_2 : Nat) => any, fz Fz.nil 0 0 fun (x x_2 : Nat) => any]) 0 2 (List.brecOn (motive := fun (x : List AV) => Nat → AV) [encR u1.needs, encR u1.bars] nth._f) c) ∧ 1 ≤ 1 ∧ 1 ≤ 2 ∧ (∀ (hp : List AObj) (g : R.σ), true = true ∧ Does Tryd.prog R 45 [encIx x, encR u1.needs, int i64 4, int i64 u5] hp g (ret (AV.bool u3)) hp g) ∧ ((!!u3) = true → 1 ≤ 1) ∧ ((!!u3) = true → 2 ≤ 2) ∧ ((!!u3) = true → ∀ (hp : List AObj) (g : R.σ), true = true ∧ Does Tryd.prog R 45 [encIx x, encR u1.bars, int i64 4, int i64 u5] hp g (ret (AV.bool (rangesB x u1.bars.l 4 u5))) hp g) ∧ ((bif !u3 then true else !rangesB x u1.bars.l 4 u5) = true → Q AEx.ret (St.mk [(2, AV.bool false)] u6 g)) ∧ ((bif !u3 then true else !rangesB x u1.bars.l 4 u5) = false → (-9223372036854775808 ≤ u4 + 1 ∧ u4 + 1 ≤ 9223372036854775807) ∧ Q AEx.normal (St.mk [(1, ref 0 0), (3, int i64 u5), (4, int i64 (u4 + 1))] u6 g))) ∧ (decide (u4 < u2) = false → Q (AEx.exit 2) (St.mk [(1, ref 0 0), (3, int i64 u5), (4, int i64 u4), (32, AV.bool (decide (u4 < u2)))] [cells false 1 (nth [encPacks x])] g))) ([cells false 1 (nth [encPacks x]), cells false 2 (nth [encR u1.needs, encR u1.bars])])) ((i : Int))) ((k : Int))) (rangesB x u1.needs.l 4 (i : Int))) ((↑((x.l.getD i default).l.length) : Int))) ((x.l.getD i default).l.getD k default)) (fun _ => by kernel_rfl) ⟨(by omega), ⟨(by omega), ⟨(by omega), ⟨fun c1 => have c1 : (k : Int) < (↑((x.l.getD i default).l.length) : Int) := (of_decide_eq_true c1); ⟨(by omega), ⟨(by omega), ⟨(by omega), ⟨(by omega), ⟨(by omega), ⟨(by omega), ⟨(fun c hc => match c, hc with | 0, _ => (by kernel_rfl) | 1, _ => (by kernel_rfl) ), ⟨(by omega), ⟨(by omega), ⟨(fun _ _ => ⟨rfl, (Go.Avm.Pack.c_ranges _ _ _ _ _ _ _ (by omega) (by omega) (by decide))⟩), ⟨(by omega), ⟨(by omega), ⟨(fun hgd => (fun _ _ => ⟨rfl, (Go.Avm.Pack.c_ranges _ _ _ _ _ _ _ (by omega) (by omega) (by decide))⟩)), ⟨fun c2 => have c2 : rangesB x ((x.l.getD i default).l.getD k default).needs.l 4 (i : Int) = false ∨ rangesB x ((x.l.getD i default).l.getD k default).bars.l 4 (i : Int) = false := ((cO_t c2).imp (fun h => ((Bool.not_eq_true' _).mp h)) (fun h => ((Bool.not_eq_true' _).mp h))); ?_, fun c2 => have c2 : rangesB x ((x.l.getD i default).l.getD k default).needs.l 4 (i : Int) = true ∧ rangesB x ((x.l.getD i default).l.getD k default).bars.l 4 (i : Int) = true := ⟨((Bool.not_eq_false' _).mp (cO_f c2).1), ((Bool.not_eq_false' _).mp (cO_f c2).2)⟩; ⟨(by omega), ?_⟩⟩⟩⟩⟩⟩⟩⟩⟩⟩⟩⟩⟩⟩⟩, fun c1 => have c1 : ¬(k : Int) < (↑((x.l.getD i default).l.length) : Int) := (of_decide_eq_false c1); ?_⟩⟩⟩⟩
     ·refine ⟨_, To.refl _, ⟨_, To.refl _, (retQ_le (retQ_drop _ _ rfl trivial trivial rfl) (Le.of_eq ?_))⟩⟩
      show (AV.bool false) = _
      have : relB x i ((x.l.getD i default).l.getD k default) = false := by
       rw [relB_eq]
       rcases c2 with h | h
       ·rw [h]; rfl
       ·rw [h, Bool.and_false]
      rw [formedB_not (i := i) (by omega) (relsB_not (k := k) (by omega) this)]
     ·refine (next_round (k + 1) (to_sel [0] 2 rfl rfl rfl rfl rfl ⟨(Le.refl _), ⟨(Le.refl _), ⟨(Le.refl _), trivial⟩⟩⟩ ⟨⟨rfl, Nat.le_refl _, fun j hj => match j, hj with | 0, _ => (Le.refl _) ⟩, trivial⟩) ?_ ?_)
      ·refine ⟨by omega, fun j hj => ?_⟩
       rcases Nat.lt_or_ge j k with h | h
       ·exact k2 j h
       ·have : j = k := by omega
        subst this
        rw [relB_eq, c2.1, c2.2]; rfl
      ·omega
     ·refine ⟨_, To.refl _, vcQ [] (lkL [(5, [1, 3])]) (fun _ => []) (fun Q => (-9223372036854775808 ≤ (i : Int) + 1 ∧ (i : Int) + 1 ≤ 9223372036854775807) ∧ Q AEx.normal (St.mk [(1, ref 0 0), (3, int i64 ((i : Int) + 1))] [cells false 1 (nth [encPacks x])] g)) (fun _ => by kernel_rfl) ⟨(by omega), ?_⟩⟩
      refine (next_round (i + 1) (to_fr ⟨(Le.refl _), ⟨(Le.of_eq (by kernel_rfl)), trivial⟩⟩ rfl rfl) ?_ ?_)
      ·refine ⟨by omega, fun j hj => ?_⟩
       rcases Nat.lt_or_ge j i with h | h
       ·exact h2 j h
       ·have : j = i := by omega
        subst this
        exact relsB_of (by omega) (fun k' hk' => k2 k' (by omega))
      ·omega
   ·refine ⟨_, To.refl _, vcQ [] (lkL [(14, [2])]) (fun _ => []) (fun Q => Q AEx.ret (St.mk [(2, AV.bool true)] [cells false 1 (nth [encPacks x])] g)) (fun _ => by kernel_rfl) (?_)⟩
    refine (retQ_le (retQ_drop _ _ rfl trivial trivial rfl) (Le.of_eq ?_))
    show (AV.bool true) = _
    rw [formedB_of (by omega) (fun j hj => h2 j (by omega))]
theorem c_fine (R : Res) (x : Ix) (l : KL Rng) (hp : List AObj) (g : R.σ) (hs : small x) (hr : smallR x) (hl : l.l.length < 1000000) : Does Tryd.prog R 29 [encIx x, encR l] hp g (.ret (.bool (checkB x l.l))) hp g := by
 refine does_any' (fun R g => ?_) (by exact ⟨⟨trivial, trivial⟩, ⟨trivial, trivial⟩⟩) R hp g
 refine spec_of_wp (nt := 12) (rs := [.tmp 4]) (k0 := 0) (by kernel_rfl) (by kernel_rfl) (by kernel_rfl) rfl ?_
 refine vcQ [] (lkL [(0, [1, 2]), (1, [4])]) (lkL [(1, [(1, ROrc.pcall (AV.bool (formedB x))), (5, ROrc.pcall (AV.bool (decide (l.l.length ≤ 4) && List.all l.l (rangedB x))))])]) (fun Q => (fun (u1 : Bool) => 1 ≤ 1 ∧ (∀ (hp : List AObj) (g : R.σ), true = true ∧ Does Tryd.prog R 10 [encIx x] hp g (ret (AV.bool (formedB x))) hp g) ∧ (formedB x = true → 1 ≤ 1) ∧ (formedB x = true → ∀ (hp : List AObj) (g : R.σ), true = true ∧ Does Tryd.prog R 68 [encIx x, encR l] hp g (ret (AV.bool u1)) hp g) ∧ Q AEx.ret (St.mk [(4, AV.bool (bif formedB x then u1 else false))] [cells false 1 (nth [encPacks x])] g)) (decide (l.l.length ≤ 4) && List.all l.l (rangedB x))) (fun _ => by kernel_rfl) ⟨(by omega), ⟨(fun _ _ => ⟨rfl, (Go.Avm.Pack.c_Index _ _ _ _ (by omega) (by omega))⟩), ⟨(by omega), ⟨(fun hgd => (fun _ _ => ⟨rfl, (Go.Avm.Pack.c_Goals _ _ _ _ _ (by omega) (by omega))⟩)), ?_⟩⟩⟩⟩
 refine (retQ_le (retQ_drop _ _ rfl trivial trivial rfl) (Le.of_eq (by kernel_rfl)))
def smallB (x : Ix) (most : Nat) : Bool := !(decide (most < x.l.length) && decide (x.l.length ≤ 8) || decide (9 < x.l.length)) && allN' x.l.length (fun i => decide ((x.l.getD i default).l.length ≤ 6) && allN' (x.l.getD i default).l.length (fun k => decide (((x.l.getD i default).l.getD k default).needs.l.length ≤ 5) && decide (((x.l.getD i default).l.getD k default).bars.l.length ≤ 5)))
theorem smallB_iff {x : Ix} {most : Nat} : smallB x most = true ↔ ((x.l.length ≤ most ∨ 8 < x.l.length) ∧ x.l.length ≤ 9) ∧ ∀ j, j < x.l.length → (x.l.getD j default).l.length ≤ 6 ∧ ∀ k, k < (x.l.getD j default).l.length → ((x.l.getD j default).l.getD k default).needs.l.length ≤ 5 ∧ ((x.l.getD j default).l.getD k default).bars.l.length ≤ 5 := by
 unfold smallB allN'
 simp only [Bool.and_eq_true, List.all_eq_true, List.mem_range, decide_eq_true_eq, Bool.not_eq_true', Bool.or_eq_false_iff, Bool.and_eq_false_iff, decide_eq_false_iff_not]
 constructor
 ·rintro ⟨⟨h1, h2⟩, h3⟩
  exact ⟨⟨by omega, by omega⟩, h3⟩
 ·rintro ⟨⟨h1, h2⟩, h3⟩
  exact ⟨⟨by omega, by omega⟩, h3⟩
theorem smallB_not {x : Ix} {most : Nat} {i : Nat} (hi : i < x.l.length) (h : 6 < (x.l.getD i default).l.length ∨ ∃ k, k < (x.l.getD i default).l.length ∧ (5 < ((x.l.getD i default).l.getD k default).needs.l.length ∨ 5 < ((x.l.getD i default).l.getD k default).bars.l.length)) : smallB x most = false := by
 rw [Bool.eq_false_iff]
 intro hs
 obtain ⟨_, h2⟩ := smallB_iff.1 hs
 obtain ⟨h3, h4⟩ := h2 i hi
 rcases h with h | ⟨k, hk, h⟩
 ·omega
 ·have := h4 k hk; omega
theorem smallB_of {x : Ix} {most : Nat} (h1 : ((x.l.length ≤ most ∨ 8 < x.l.length) ∧ x.l.length ≤ 9)) (h2 : ∀ j, j < x.l.length → (x.l.getD j default).l.length ≤ 6 ∧ ∀ k, k < (x.l.getD j default).l.length → ((x.l.getD j default).l.getD k default).needs.l.length ≤ 5 ∧ ((x.l.getD j default).l.getD k default).bars.l.length ≤ 5) : smallB x most = true :=
 smallB_iff.2 ⟨h1, h2⟩
theorem c_Small (R : Res) (x : Ix) (most : Nat) (hp : List AObj) (g : R.σ) (hm : most < 1000000) : Does Tryd.prog R 7 [encIx x, .int .i64 most] hp g (.ret (.bool (smallB x most))) hp g := by
 refine does_any' (fun R g => ?_) (by exact ⟨⟨trivial, trivial⟩, ⟨trivial, trivial⟩⟩) R hp g
 refine spec_of_wp (nt := 67) (rs := [.tmp 4]) (k0 := 0) (by kernel_rfl) (by kernel_rfl) (by kernel_rfl) rfl ?_
 refine vcQ [] (lkL [(0, [1, 2]), (1, [2, 24]), (2, [4]), (3, [2, 5])]) (fun _ => []) (fun Q => (fun (u1 : Int) => (fun (u2 : Bool) => 1 ≤ 1 ∧ (decide (u1 > (most : Int)) = true → 1 ≤ 1) ∧ ((!u2) = true → 1 ≤ 1) ∧ ((bif u2 then true else decide (u1 > 9)) = true → Q AEx.ret (St.mk [(4, AV.bool false)] [cells false 1 (nth [encPacks x])] g)) ∧ ((bif u2 then true else decide (u1 > 9)) = false → Wp Tryd.prog R 67 0 Rd.top (bodyOf Tryd.prog 7) [1, 1, 0, 1, 0] (contQ Tryd.prog R 67 0 Rd.top (bodyOf Tryd.prog 7) Q [Kont.blk 0, Kont.seq [1, 1, 1]]) (St.mk [(2, ref 0 0), (5, int i64 0)] [cells false 1 (nth [encPacks x])] g))) (bif decide (u1 > (most : Int)) then decide (u1 ≤ 8) else false)) ((x.l.length : Int))) (fun _ => by kernel_rfl) ⟨(by omega), ⟨(by omega), ⟨(by omega), ⟨fun c1 => have c1 : (x.l.length : Int) > (most : Int) ∧ (x.l.length : Int) ≤ 8 ∨ (x.l.length : Int) > 9 := ((cO_t c1).imp (fun h => ⟨(of_decide_eq_true (cA_t h).1), (of_decide_eq_true (cA_t h).2)⟩) (fun h => (of_decide_eq_true h))); ?_, fun c1 => have c1 : (¬(x.l.length : Int) > (most : Int) ∨ ¬(x.l.length : Int) ≤ 8) ∧ ¬(x.l.length : Int) > 9 := ⟨((cA_f (cO_f c1).1).imp (fun h => (of_decide_eq_false h)) (fun h => (of_decide_eq_false h))), (of_decide_eq_false (cO_f c1).2)⟩; ?_⟩⟩⟩⟩
 ·refine (retQ_le (retQ_drop _ _ rfl trivial trivial rfl) (Le.of_eq ?_))
  show (AV.bool false) = _
  congr 1
  unfold smallB
  rcases c1 with ⟨h, h'⟩ | h
  ·have h1 : most < x.l.length := by omega
   have h2 : x.l.length ≤ 8 := by omega
   simp [h1, h2]
  ·have h1 : 9 < x.l.length := by omega
   simp [h1]
 ·have hb := c1
  refine (wp_loop (by kernel_rfl) (fun (i : Nat) => ⟨[(2, ref 0 0), (5, .int .i64 (i : Int))], [cells false 1 (nth [encPacks x])], g⟩) (fun (i : Nat) => (i ≤ x.l.length ∧ ∀ j, j < i → (x.l.getD j default).l.length ≤ 6 ∧ ∀ k, k < (x.l.getD j default).l.length → ((x.l.getD j default).l.getD k default).needs.l.length ≤ 5 ∧ ((x.l.getD j default).l.getD k default).bars.l.length ≤ 5)) (fun (i : Nat) => (x.l.length - i)) 0 (to_fr ⟨(Le.refl _), ⟨(Le.of_eq (by kernel_rfl)), trivial⟩⟩ rfl rfl) ?_ (fun i hi => ?_))
  ·exact ⟨Nat.zero_le _, fun j hj => absurd hj (by omega)⟩
  ·obtain ⟨h1, h2⟩ := hi
   refine vcQ [] (lkL [(4, [2, 5, 29]), (6, [2, 5, 38]), (7, [4]), (8, [2, 5, 6])]) (fun _ => []) (fun Q => (fun (u1 : Int) => (fun (u2 : Int) => (fun (u3 : Int) => (fun (u4 : AObj) => 1 ≤ 1 ∧ (decide (u3 < u1) = true → 1 ≤ 1 ∧ (0 ≤ u3 ∧ u3 < u1) ∧ 1 ≤ 1 ∧ (decide (u2 > 6) = true → Q AEx.ret (St.mk [(4, AV.bool false)] [u4] g)) ∧ (decide (u2 > 6) = false → Wp Tryd.prog R 67 0 Rd.top (bodyOf Tryd.prog 7) [1, 1, 0, 1, 0, 0, 1, 0, 0, 1, 1, 0] (contQ Tryd.prog R 67 0 Rd.top (bodyOf Tryd.prog 7) Q [Kont.blk 2, Kont.blk 1, Kont.seq [1, 1, 0, 1, 0, 0, 1, 1]]) (St.mk [(2, ref 0 0), (5, int i64 u3), (6, int i64 0)] [u4] g))) ∧ (decide (u3 < u1) = false → Q (AEx.exit 0) (St.mk [(2, ref 0 0), (5, int i64 u3), (29, AV.bool (decide (u3 < u1)))] [u4] g))) (cells false 1 (nth [encPacks x]))) ((i : Int))) ((↑((x.l.getD i default).l.length) : Int))) ((x.l.length : Int))) (fun _ => by kernel_rfl) ⟨(by omega), ⟨fun c1 => have c1 : (i : Int) < (x.l.length : Int) := (of_decide_eq_true c1); ⟨(by omega), ⟨(by omega), ⟨(by omega), ⟨fun c2 => have c2 : (↑((x.l.getD i default).l.length) : Int) > 6 := (of_decide_eq_true c2); ?_, fun c2 => have c2 : ¬(↑((x.l.getD i default).l.length) : Int) > 6 := (of_decide_eq_false c2); ?_⟩⟩⟩⟩, fun c1 => have c1 : ¬(i : Int) < (x.l.length : Int) := (of_decide_eq_false c1); ?_⟩⟩
   ·refine ⟨_, To.refl _, (retQ_le (retQ_drop _ _ rfl trivial trivial rfl) (Le.of_eq ?_))⟩
    show (AV.bool false) = _
    rw [smallB_not (i := i) (by omega) (.inl (by omega))]
   ·have hi' := c1
    have h5 := c2
    refine (wp_loop (by kernel_rfl) (fun (k : Nat) => ⟨[(2, ref 0 0), (5, int i64 (i : Int)), (6, .int .i64 (k : Int))], [cells false 1 (nth [encPacks x])], g⟩) (fun (k : Nat) => (k ≤ (x.l.getD i default).l.length ∧ ∀ j, j < k → ((x.l.getD i default).l.getD j default).needs.l.length ≤ 5 ∧ ((x.l.getD i default).l.getD j default).bars.l.length ≤ 5)) (fun (k : Nat) => ((x.l.getD i default).l.length - k)) 0 (to_fr ⟨(Le.refl _), ⟨(Le.refl _), ⟨(Le.of_eq (by kernel_rfl)), trivial⟩⟩⟩ rfl rfl) ?_ (fun k hi => ?_))
    ·exact ⟨Nat.zero_le _, fun j hj => absurd hj (by omega)⟩
    ·obtain ⟨k1, k2⟩ := hi
     refine vcQ [] (lkL [(9, [2, 5, 6, 46]), (11, [2, 5, 6, 7]), (12, [2, 5, 6, 66]), (13, [4]), (10, [2, 5, 6])]) (lkL [(11, [(9, ROrc.val (Orc.obj (nth [encR ((x.l.getD i default).l.getD k default).needs, encR ((x.l.getD i default).l.getD k default).bars])))])]) (fun Q => (fun (u1 : Rel) => (fun (u2 : Int) => (fun (u3 : Int) => (fun (u4 : Int) => (fun (u5 : Int) => (fun (u6 : List AObj) => (fun (u7 : Int) => 1 ≤ 1 ∧ (0 ≤ u7 ∧ u7 < (x.l.length : Int)) ∧ 1 ≤ 1 ∧ (decide (u4 < u2) = true → 1 ≤ 1 ∧ (0 ≤ u7 ∧ u7 < (x.l.length : Int)) ∧ 1 ≤ 1 ∧ (0 ≤ u4 ∧ u4 < u2) ∧ 2 ≤ 2 ∧ 2 ≤ 2 ∧ (∀ (c : Nat), c < 2 → nth [encR u1.needs, encR u1.bars] c = over (nth [fz Fz.nil 0 0 fun (x x_2 : Nat) => any, fz Fz.nil 0 0 fun (x x_2 : Nat) => any]) 0 2 (List.brecOn (motive := fun (x : List AV) => Nat → AV) [encR u1.needs, encR u1.bars] nth._f) c) ∧ 1 ≤ 2 ∧ ((!decide (u3 > 5)) = true → 2 ≤ 2) ∧ ((bif decide (u3 > 5) then true else decide (u5 > 5)) = true → Q AEx.ret (St.mk [(4, AV.bool false)] u6 g)) ∧ ((bif decide (u3 > 5) then true else decide (u5 > 5)) = false → (-9223372036854775808 ≤ u4 + 1 ∧ u4 + 1 ≤ 9223372036854775807) ∧ Q AEx.normal (St.mk [(2, ref 0 0), (5, int i64 u7), (6, int i64 (u4 + 1))] u6 g))) ∧ (decide (u4 < u2) = false → Q (AEx.exit 2) (St.mk [(2, ref 0 0), (5, int i64 u7), (6, int i64 u4), (46, AV.bool (decide (u4 < u2)))] [cells false 1 (nth [encPacks x])] g))) ((i : Int))) ([cells false 1 (nth [encPacks x]), cells false 2 (nth [encR u1.needs, encR u1.bars])])) ((u1.bars.l.length : Int))) ((k : Int))) ((u1.needs.l.length : Int))) ((↑((x.l.getD i default).l.length) : Int))) ((x.l.getD i default).l.getD k default)) (fun _ => by kernel_rfl) ⟨(by omega), ⟨(by omega), ⟨(by omega), ⟨fun c1 => have c1 : (k : Int) < (↑((x.l.getD i default).l.length) : Int) := (of_decide_eq_true c1); ⟨(by omega), ⟨(by omega), ⟨(by omega), ⟨(by omega), ⟨(by omega), ⟨(by omega), ⟨(fun c hc => match c, hc with | 0, _ => (by kernel_rfl) | 1, _ => (by kernel_rfl) ), ⟨(by omega), ⟨(by omega), ⟨fun c2 => have c2 : (↑(((x.l.getD i default).l.getD k default).needs.l.length) : Int) > 5 ∨ (↑(((x.l.getD i default).l.getD k default).bars.l.length) : Int) > 5 := ((cO_t c2).imp (fun h => (of_decide_eq_true h)) (fun h => (of_decide_eq_true h))); ?_, fun c2 => have c2 : ¬(↑(((x.l.getD i default).l.getD k default).needs.l.length) : Int) > 5 ∧ ¬(↑(((x.l.getD i default).l.getD k default).bars.l.length) : Int) > 5 := ⟨(of_decide_eq_false (cO_f c2).1), (of_decide_eq_false (cO_f c2).2)⟩; ⟨(by omega), ?_⟩⟩⟩⟩⟩⟩⟩⟩⟩⟩⟩, fun c1 => have c1 : ¬(k : Int) < (↑((x.l.getD i default).l.length) : Int) := (of_decide_eq_false c1); ?_⟩⟩⟩⟩
     ·refine ⟨_, To.refl _, ⟨_, To.refl _, (retQ_le (retQ_drop _ _ rfl trivial trivial rfl) (Le.of_eq ?_))⟩⟩
      show (AV.bool false) = _
      rw [smallB_not (i := i) (by omega) (.inr ⟨k, by omega, by omega⟩)]
     ·refine (next_round (k + 1) (to_sel [0] 2 rfl rfl rfl rfl rfl ⟨(Le.refl _), ⟨(Le.refl _), ⟨(Le.refl _), trivial⟩⟩⟩ ⟨⟨rfl, Nat.le_refl _, fun j hj => match j, hj with | 0, _ => (Le.refl _) ⟩, trivial⟩) ?_ ?_)
      ·refine ⟨by omega, fun j hj => ?_⟩
       rcases Nat.lt_or_ge j k with h | h
       ·exact k2 j h
       ·have : j = k := by omega
        subst this
        omega
      ·omega
     ·refine ⟨_, To.refl _, vcQ [] (lkL [(5, [2, 5])]) (fun _ => []) (fun Q => (-9223372036854775808 ≤ (i : Int) + 1 ∧ (i : Int) + 1 ≤ 9223372036854775807) ∧ Q AEx.normal (St.mk [(2, ref 0 0), (5, int i64 ((i : Int) + 1))] [cells false 1 (nth [encPacks x])] g)) (fun _ => by kernel_rfl) ⟨(by omega), ?_⟩⟩
      refine (next_round (i + 1) (to_fr ⟨(Le.refl _), ⟨(Le.of_eq (by kernel_rfl)), trivial⟩⟩ rfl rfl) ?_ ?_)
      ·refine ⟨by omega, fun j hj => ?_⟩
       rcases Nat.lt_or_ge j i with h | h
       ·exact h2 j h
       ·have : j = i := by omega
        subst this
        exact ⟨by omega, fun k' hk' => k2 k' (by omega)⟩
      ·omega
   ·refine ⟨_, To.refl _, vcQ [] (lkL [(14, [4])]) (fun _ => []) (fun Q => Q AEx.ret (St.mk [(4, AV.bool true)] [cells false 1 (nth [encPacks x])] g)) (fun _ => by kernel_rfl) (?_)⟩
    refine (retQ_le (retQ_drop _ _ rfl trivial trivial rfl) (Le.of_eq ?_))
    show (AV.bool true) = _
    rw [smallB_of (by omega) (fun j hj => h2 j (by omega))]
end Go.Avm.Pack
namespace Go.Avm.Pack
open Go Go.Avm Go.Proofs
open Go.IntKind (i64 u64)
open Go.Avm.AV (int bool any fz fp sl ow ref fn ifc val agg tup)
open Go.Avm.AObj (cells dead)
open Go.Avm.Oc (ret)
set_option maxRecDepth 4000

theorem ofInt_nat (n : Nat) : BitVec.ofInt 64 (n : Int) = BitVec.ofNat 64 n := by
 apply BitVec.eq_of_toNat_eq
 simp
theorem wrap_nat {n : Nat} (h : n < 2 ^ 64) : IntKind.u64.wrap (n : Int) = n := by
 simp only [IntKind.wrap, IntKind.bits, IntKind.signed]; simp; omega
theorem shr_nat (s i : Nat) (hi : i < 64) : ((s : Int).fdiv (2 ^ min i 64)) = ((s >>> i : Nat) : Int) := by
 rw [Nat.min_eq_left (by omega), Int.fdiv_eq_ediv_of_nonneg _ (by exact Int.le_of_lt (Int.pow_pos (by decide))), Nat.shiftRight_eq_div_pow]
 simp
theorem bit_test (s i : Nat) (hs : s < 2 ^ 64) (hi : i < 64) : IntKind.u64.wrap ↑(BitVec.ofInt 64 ((s : Int).fdiv (2 ^ min i 64)) &&& BitVec.ofInt 64 1).toNat = if s.testBit i then 1 else 0 := by
 rw [shr_nat s i hi, ofInt_nat, show (1 : Int) = ((1 : Nat) : Int) from rfl, ofInt_nat, BitVec.toNat_and, BitVec.toNat_ofNat, BitVec.toNat_ofNat]
 have h1 : s >>> i < 2 ^ 64 := Nat.lt_of_le_of_lt (Nat.shiftRight_le _ _) hs
 rw [Nat.mod_eq_of_lt h1, show (1 % 2 ^ 64 : Nat) = 1 from rfl, Nat.and_one_is_mod]
 have h2 : s.testBit i = decide (s >>> i % 2 = 1) := by
  rw [Nat.testBit_eq_decide_div_mod_eq, Nat.shiftRight_eq_div_pow]
 rw [wrap_nat (by omega), h2]
 rcases Nat.mod_two_eq_zero_or_one (s >>> i) with h | h <;> simp [h]
theorem bit_set (s i : Nat) (hs : s < 2 ^ 64) (hi : i < 64) : IntKind.u64.wrap ↑(BitVec.ofInt 64 (s : Int) ||| BitVec.ofInt 64 (IntKind.u64.wrap (1 * 2 ^ min i 64))).toNat = ((s ||| 2 ^ i : Nat) : Int) := by
 have hp : 2 ^ i < 2 ^ 64 := Nat.pow_lt_pow_right (by decide) hi
 rw [Nat.min_eq_left (by omega), Int.one_mul, show ((2 : Int) ^ i) = ((2 ^ i : Nat) : Int) by simp, wrap_nat hp, ofInt_nat, ofInt_nat, BitVec.toNat_or, BitVec.toNat_ofNat, BitVec.toNat_ofNat, Nat.mod_eq_of_lt hs, Nat.mod_eq_of_lt hp]
 exact wrap_nat (Nat.or_lt_two_pow hs hp)
def room (s : Nat) : Nat := ((List.range 8).filter fun i => !s.testBit i).length
theorem room_le {s t : Nat} (h : ∀ b, s.testBit b = true → t.testBit b = true) : room t ≤ room s := by
 unfold room
 rw [← List.countP_eq_length_filter, ← List.countP_eq_length_filter]
 refine List.countP_mono_left (fun b _ hb => ?_)
 cases hs : s.testBit b with
 | false => rfl
 | true => rw [h b hs] at hb; cases hb
theorem countP_lt {α : Type} {p q : α → Bool} : ∀ {l : List α}, (∀ a ∈ l, q a = true → p a = true) → ∀ {x : α}, x ∈ l → p x = true → q x = false → l.countP q < l.countP p
 | [], _, _, hx, _, _ => by cases hx
 | a :: l, h, x, hx, hp, hq => by
   have mono : l.countP q ≤ l.countP p := List.countP_mono_left (fun b hb h' => h b (List.mem_cons_of_mem _ hb) h')
   rcases List.mem_cons.1 hx with e | e
   ·subst e
    rw [List.countP_cons_of_pos hp, List.countP_cons_of_neg (by rw [hq]; simp)]
    omega
   ·have := countP_lt (l := l) (fun b hb h' => h b (List.mem_cons_of_mem _ hb) h') e hp hq
    rw [List.countP_cons, List.countP_cons]
    have h1 := h a List.mem_cons_self
    split <;> split <;> first | omega | (rename_i h2 h3; exact absurd (h1 h2) h3)
theorem testBit_set (s i b : Nat) : (s ||| 2 ^ i).testBit b = (s.testBit b || decide (i = b)) := by
 rw [Nat.testBit_or, Nat.testBit_two_pow]
theorem room_set {s i : Nat} (hi : i < 8) (h : s.testBit i = false) : room (s ||| 2 ^ i) < room s := by
 unfold room
 rw [← List.countP_eq_length_filter, ← List.countP_eq_length_filter]
 refine countP_lt (x := i) (fun b _ hb => ?_) (by simpa using hi) (by simp [h]) (by simp [testBit_set])
 rw [testBit_set] at hb
 cases hs : s.testBit b with
 | false => rfl
 | true => rw [hs] at hb; simp at hb
def dfs (x : Ix) (p : Nat → Int) : Nat → Nat → Nat → Nat
 | 0, s, _ => s
 | n + 1, s, i => if s.testBit i then s else (relOf x p i).needs.l.foldl (fun s r => dfs x p n s r.pack.toNat) (s ||| 2 ^ i)
theorem foldl_keep {α : Type} {P : Nat → Prop} {f : Nat → α → Nat} : ∀ {l : List α} {s : Nat}, (∀ s, P s → ∀ a ∈ l, P (f s a)) → P s → P (l.foldl f s)
 | [], _, _, h => h
 | a :: l, s, hf, h => foldl_keep (l := l) (fun s hs b hb => hf s hs b (List.mem_cons_of_mem _ hb)) (hf s h a List.mem_cons_self)
theorem foldl_take_succ {α β : Type} {f : β → α → β} {l : List α} {s : β} {j : Nat} {d : α} (h : j < l.length) : (l.take (j + 1)).foldl f s = f ((l.take j).foldl f s) (l.getD j d) := by
 rw [List.take_succ_eq_append_getElem h, List.foldl_append, List.getD_eq_getElem?_getD, List.getElem?_eq_getElem h]
 rfl
theorem dfs_grows (x : Ix) (p : Nat → Int) : ∀ (n s i : Nat), ∀ b, s.testBit b = true → (dfs x p n s i).testBit b = true
 | 0, _, _, _, h => h
 | n + 1, s, i, b, h => by
   unfold dfs
   split
   ·exact h
   ·refine foldl_keep (P := fun s => s.testBit b = true) (fun s hs a _ => dfs_grows x p n s _ b hs) ?_
    rw [testBit_set, h]; rfl
theorem or_lt8 {s i : Nat} (hs : s < 2 ^ 8) (hi : i < 8) : s ||| 2 ^ i < 2 ^ 8 := Nat.or_lt_two_pow hs (Nat.pow_lt_pow_right (by decide) hi)
def wfN (x : Ix) (p : Nat → Int) : Prop := ∀ i, i < x.l.length → ∀ r ∈ (relOf x p i).needs.l, 0 ≤ r.pack ∧ r.pack < x.l.length
theorem dfs_lt {x : Ix} {p : Nat → Int} (h8 : x.l.length ≤ 8) (hw : wfN x p) : ∀ (n s i : Nat), i < x.l.length → s < 2 ^ 8 → dfs x p n s i < 2 ^ 8
 | 0, _, _, _, h => h
 | n + 1, s, i, hi, h => by
   unfold dfs
   split
   ·exact h
   ·refine foldl_keep (P := fun s => s < 2 ^ 8) (fun s hs r hr => ?_) (or_lt8 h (by omega))
    have := hw i hi r hr
    exact dfs_lt h8 hw n s _ (by omega) hs

def inP (x : Ix) (p : Nat → Int) : Prop := ∀ i, i < x.l.length → -1 ≤ p i ∧ p i < ((x.l.getD i default).l.length : Int)
theorem c_release (R : Res) (x : Ix) (gl : KL Rng) (p : Nat → Int) (i : Nat) (hp : List AObj) (g : R.σ) (h8 : x.l.length ≤ 8) (hx : i < x.l.length) (h : inP x p) : Does Tryd.prog R 99 [encMkt x gl, encPlan p, .int .i64 i] hp g (.ret (.tup 2 (nth [encRel (relOf x p i), .bool (p i != -1)]))) hp g := by
 have h1 := h i hx
 unfold relOf
 by_cases e : p i = -1
 ·rw [if_pos e, show (p i != -1) = false by simp [e]]
  exact c_release_n R x gl p i hp g (by simpa using e) (by omega)
 ·rw [if_neg e, show (p i != -1) = true by simpa using e]
  exact c_release_s R x gl p i hp g (by simpa using e) (by omega) hx h1.1 h1.2
def hpN (x : Ix) (gl : KL Rng) (p : Nat → Int) (s : Nat) : List AObj := [.cells false 2 (nth [encPacks x, encR gl]), .cells false 8 (fun a => .int .i64 (p a)), .cells false 1 (fun _ => .int .u64 s), .cells false 1 (nth [.fn 105 0 (nth []) 4 (nth [.ref 2 0, .ref 0 0, .ref 1 0, .ref 3 0])])]
def smallN (x : Ix) (p : Nat → Int) : Prop := ∀ i, (relOf x p i).needs.l.length < 1000000
theorem needed1_all (x : Ix) (gl : KL Rng) (p : Nat → Int) (h8 : x.l.length ≤ 8) (h : inP x p) (hw : wfN x p) (hl : smallN x p) (n : Nat) : ∀ (R : Res) (g : R.σ) (k : Int) (s : Nat), 0 ≤ k → k < x.l.length → s < 2 ^ 8 → room s ≤ n → Does Tryd.prog R 105 [.int .i64 k, .ref 2 0, .ref 0 0, .ref 1 0, .ref 3 0] (hpN x gl p s) g (.ret (.tup 0 (nth []))) (hpN x gl p (dfs x p n s k.toNat)) g := by
 induction n with
 | zero =>
   intro R g k s hk hx hs hr
   obtain ⟨i, rfl⟩ := Int.eq_ofNat_of_zero_le hk
   have hx : i < x.l.length := by omega
   rw [Int.toNat_natCast]
   have ht : s.testBit i = true := by
    cases e : s.testBit i with
    | true => rfl
    | false => have := room_set (s := s) (i := i) (by omega) e; omega
   refine spec_of_wp (nt := 38) (rs := []) (k0 := 4) (by kernel_rfl) (by kernel_rfl) (by kernel_rfl) rfl ?_
   refine vcQ [] (lkL [(0, [0, 1, 2, 3, 4, 14]), (1, [0, 2, 3, 4]), (2, [4, 6]), (3, [4, 27, 28, 29])]) (lkL [(1, [(4, ROrc.val (Orc.obj (nth [int u64 (IntKind.wrap u64 (↑(BitVec.toNat (BitVec.ofInt 64 (s : Int) ||| BitVec.ofInt 64 (IntKind.wrap u64 (1 * 2 ^ min i 64)))) : Int))])))]), (2, [(3, ROrc.pcall (tup 2 (nth [encRel (relOf x p i), AV.bool (p i != -1)]))), (8, ROrc.val (Orc.obj (nth [encR (relOf x p i).needs, encR (relOf x p i).bars])))])]) (fun Q => (fun (u1 : AV) => (fun (u2 : Bool) => (fun (u3 : List AV) => (fun (u4 : AObj) => 1 ≤ 1 ∧ 0 ≤ (i : Int) ∧ (u2 = true → Q AEx.ret (St.mk [(0, int i64 (i : Int)), (1, ref 2 0), (2, ref 0 0), (3, ref 1 0), (4, ref 3 0), (14, AV.bool u2)] [cells false 2 (nth [encPacks x, encR gl]), cells false 8 fun (a : Nat) => int i64 (p a), cells false 1 fun (x : Nat) => int u64 (s : Int), u4] g)) ∧ (u2 = false → Tables.follows Tryd.prog.toTables Departure.mixedOrders = true ∧ 1 ≤ 1 ∧ 0 ≤ (i : Int) ∧ 1 ≤ 1 ∧ (∀ (c : Nat), c < 1 → nth [u1] c = over (fun (x : Nat) => int u64 (s : Int)) 0 1 (fun (x : Nat) => u1) c) ∧ 2 ≤ 2 ∧ 8 ≤ 8 ∧ (∀ (hp : List AObj) (g : R.σ), true = true ∧ Does Tryd.prog R 99 [encMkt x gl, encPlan p, int i64 (i : Int)] hp g (ret (tup 2 (nth [encRel (relOf x p i), AV.bool (p i != -1)]))) hp g) ∧ 2 ≤ 2 ∧ (∀ (c : Nat), c < 2 → nth u3 c = over (nth [fz Fz.nil 0 0 fun (x x_2 : Nat) => any, fz Fz.nil 0 0 fun (x x_2 : Nat) => any]) 0 2 (List.brecOn (motive := fun (x : List AV) => Nat → AV) u3 nth._f) c) ∧ 1 ≤ 2 ∧ Wp Tryd.prog R 38 4 Rd.top (bodyOf Tryd.prog 105) [1, 1, 1, 1, 0] (contQ Tryd.prog R 38 4 Rd.top (bodyOf Tryd.prog 105) Q [Kont.blk 0]) (St.mk [(4, ref 3 0), (27, encR (relOf x p i).needs), (28, int i64 (↑((relOf x p i).needs.l.length) : Int)), (29, int i64 0)] [cells false 2 (nth [encPacks x, encR gl]), cells false 8 fun (a : Nat) => int i64 (p a), cells false 1 (nth [u1]), u4, cells false 2 (nth u3)] g))) (cells false 1 (nth [fn 105 0 (nth []) 4 (nth [ref 2 0, ref 0 0, ref 1 0, ref 3 0])]))) ([encR (relOf x p i).needs, encR (relOf x p i).bars])) (IntKind.wrap u64 (↑(BitVec.toNat (BitVec.ofInt 64 (Int.fdiv (s : Int) (2 ^ min i 64)) &&& BitVec.ofInt 64 1)) : Int) == 1)) (int u64 (IntKind.wrap u64 (↑(BitVec.toNat (BitVec.ofInt 64 (s : Int) ||| BitVec.ofInt 64 (IntKind.wrap u64 (1 * 2 ^ min i 64)))) : Int)))) (fun _ => by kernel_rfl) ⟨(by omega), ⟨(by omega), ⟨fun c1 => have c1 : IntKind.wrap u64 (↑(BitVec.toNat (BitVec.ofInt 64 (Int.fdiv (s : Int) (2 ^ min i 64)) &&& BitVec.ofInt 64 1)) : Int) = 1 := (beq_iff_eq.mp c1); ?_, fun c1 => have c1 : ¬IntKind.wrap u64 (↑(BitVec.toNat (BitVec.ofInt 64 (Int.fdiv (s : Int) (2 ^ min i 64)) &&& BitVec.ofInt 64 1)) : Int) = 1 := (beq_eq_false_iff_ne.mp c1); ⟨(by kernel_rfl), ⟨(by omega), ⟨(by omega), ⟨(by omega), ⟨(fun c hc => match c, hc with | 0, _ => (by kernel_rfl) ), ⟨(by omega), ⟨(by omega), ⟨(fun _ _ => ⟨rfl, (Go.Avm.Pack.c_release _ _ _ _ _ _ _ (by omega) (by omega) (by omega))⟩), ⟨(by omega), ⟨(fun c hc => match c, hc with | 0, _ => (by kernel_rfl) | 1, _ => (by kernel_rfl) ), ⟨(by omega), ?_⟩⟩⟩⟩⟩⟩⟩⟩⟩⟩⟩⟩⟩⟩
   ·have hd : dfs x p 0 s i = s := rfl
    rw [hd]
    refine (retQ_le (retQ_same' _ _ rfl trivial rfl rfl rfl) (Le.refl _))
   ·rw [bit_test s i (by omega) (by omega), ht] at c1
    exact absurd rfl c1
 | succ n ih =>
   intro R g k s hk hx hs hr
   obtain ⟨i, rfl⟩ := Int.eq_ofNat_of_zero_le hk
   have hx : i < x.l.length := by omega
   rw [Int.toNat_natCast]
   refine spec_of_wp (nt := 38) (rs := []) (k0 := 4) (by kernel_rfl) (by kernel_rfl) (by kernel_rfl) rfl ?_
   refine vcQ [] (lkL [(0, [0, 1, 2, 3, 4, 14]), (1, [0, 2, 3, 4]), (2, [4, 6]), (3, [4, 27, 28, 29])]) (lkL [(1, [(4, ROrc.val (Orc.obj (nth [int u64 (IntKind.wrap u64 (↑(BitVec.toNat (BitVec.ofInt 64 (s : Int) ||| BitVec.ofInt 64 (IntKind.wrap u64 (1 * 2 ^ min i 64)))) : Int))])))]), (2, [(3, ROrc.pcall (tup 2 (nth [encRel (relOf x p i), AV.bool (p i != -1)]))), (8, ROrc.val (Orc.obj (nth [encR (relOf x p i).needs, encR (relOf x p i).bars])))])]) (fun Q => (fun (u1 : AV) => (fun (u2 : Bool) => (fun (u3 : List AV) => (fun (u4 : AObj) => 1 ≤ 1 ∧ 0 ≤ (i : Int) ∧ (u2 = true → Q AEx.ret (St.mk [(0, int i64 (i : Int)), (1, ref 2 0), (2, ref 0 0), (3, ref 1 0), (4, ref 3 0), (14, AV.bool u2)] [cells false 2 (nth [encPacks x, encR gl]), cells false 8 fun (a : Nat) => int i64 (p a), cells false 1 fun (x : Nat) => int u64 (s : Int), u4] g)) ∧ (u2 = false → Tables.follows Tryd.prog.toTables Departure.mixedOrders = true ∧ 1 ≤ 1 ∧ 0 ≤ (i : Int) ∧ 1 ≤ 1 ∧ (∀ (c : Nat), c < 1 → nth [u1] c = over (fun (x : Nat) => int u64 (s : Int)) 0 1 (fun (x : Nat) => u1) c) ∧ 2 ≤ 2 ∧ 8 ≤ 8 ∧ (∀ (hp : List AObj) (g : R.σ), true = true ∧ Does Tryd.prog R 99 [encMkt x gl, encPlan p, int i64 (i : Int)] hp g (ret (tup 2 (nth [encRel (relOf x p i), AV.bool (p i != -1)]))) hp g) ∧ 2 ≤ 2 ∧ (∀ (c : Nat), c < 2 → nth u3 c = over (nth [fz Fz.nil 0 0 fun (x x_2 : Nat) => any, fz Fz.nil 0 0 fun (x x_2 : Nat) => any]) 0 2 (List.brecOn (motive := fun (x : List AV) => Nat → AV) u3 nth._f) c) ∧ 1 ≤ 2 ∧ Wp Tryd.prog R 38 4 Rd.top (bodyOf Tryd.prog 105) [1, 1, 1, 1, 0] (contQ Tryd.prog R 38 4 Rd.top (bodyOf Tryd.prog 105) Q [Kont.blk 0]) (St.mk [(4, ref 3 0), (27, encR (relOf x p i).needs), (28, int i64 (↑((relOf x p i).needs.l.length) : Int)), (29, int i64 0)] [cells false 2 (nth [encPacks x, encR gl]), cells false 8 fun (a : Nat) => int i64 (p a), cells false 1 (nth [u1]), u4, cells false 2 (nth u3)] g))) (cells false 1 (nth [fn 105 0 (nth []) 4 (nth [ref 2 0, ref 0 0, ref 1 0, ref 3 0])]))) ([encR (relOf x p i).needs, encR (relOf x p i).bars])) (IntKind.wrap u64 (↑(BitVec.toNat (BitVec.ofInt 64 (Int.fdiv (s : Int) (2 ^ min i 64)) &&& BitVec.ofInt 64 1)) : Int) == 1)) (int u64 (IntKind.wrap u64 (↑(BitVec.toNat (BitVec.ofInt 64 (s : Int) ||| BitVec.ofInt 64 (IntKind.wrap u64 (1 * 2 ^ min i 64)))) : Int)))) (fun _ => by kernel_rfl) ⟨(by omega), ⟨(by omega), ⟨fun c1 => have c1 : IntKind.wrap u64 (↑(BitVec.toNat (BitVec.ofInt 64 (Int.fdiv (s : Int) (2 ^ min i 64)) &&& BitVec.ofInt 64 1)) : Int) = 1 := (beq_iff_eq.mp c1); ?_, fun c1 => have c1 : ¬IntKind.wrap u64 (↑(BitVec.toNat (BitVec.ofInt 64 (Int.fdiv (s : Int) (2 ^ min i 64)) &&& BitVec.ofInt 64 1)) : Int) = 1 := (beq_eq_false_iff_ne.mp c1); ⟨(by kernel_rfl), ⟨(by omega), ⟨(by omega), ⟨(by omega), ⟨(fun c hc => match c, hc with | 0, _ => (by kernel_rfl) ), ⟨(by omega), ⟨(by omega), ⟨(fun _ _ => ⟨rfl, (Go.Avm.Pack.c_release _ _ _ _ _ _ _ (by omega) (by omega) (by omega))⟩), ⟨(by omega), ⟨(fun c hc => match c, hc with | 0, _ => (by kernel_rfl) | 1, _ => (by kernel_rfl) ), ⟨(by omega), ?_⟩⟩⟩⟩⟩⟩⟩⟩⟩⟩⟩⟩⟩⟩
   ·have ht : s.testBit i = true := by
     rw [bit_test s i (by omega) (by omega)] at c1
     cases e : s.testBit i with
     | true => rfl
     | false => rw [e] at c1; simp at c1
    have hd : dfs x p (n + 1) s i = s := by unfold dfs; rw [if_pos ht]
    rw [hd]
    refine (retQ_le (retQ_same' _ _ rfl trivial rfl rfl rfl) (Le.refl _))
   ·have ht : s.testBit i = false := by
     rw [bit_test s i (by omega) (by omega)] at c1
     cases e : s.testBit i with
     | false => rfl
     | true => rw [e] at c1; simp at c1
    have hroom := room_set (by omega) ht
    have hlen := hl i
    have hS : ∀ j, room (((relOf x p i).needs.l.take j).foldl (fun s r => dfs x p n s r.pack.toNat) (s ||| 2 ^ i)) ≤ n ∧ ((relOf x p i).needs.l.take j).foldl (fun s r => dfs x p n s r.pack.toNat) (s ||| 2 ^ i) < 2 ^ 8 := by
     intro j
     refine ⟨Nat.le_trans (room_le (s := s ||| 2 ^ i) (fun b hb => ?_)) (by omega), ?_⟩
     ·exact foldl_keep (P := fun s => s.testBit b = true) (fun s hs a _ => dfs_grows x p n s _ b hs) hb
     ·refine foldl_keep (P := fun s => s < 2 ^ 8) (fun s hs r hr => ?_) (or_lt8 hs (by omega))
      have := hw i hx r (List.mem_of_mem_take hr)
      exact dfs_lt h8 hw n s _ (by omega) hs
    refine (wp_loop (by kernel_rfl) (fun (j : Nat) => ⟨[(4, ref 3 0), (27, encR (relOf x p i).needs), (28, int i64 (↑((relOf x p i).needs.l.length) : Int)), (29, .int .i64 (j : Int))], (hpN x gl p (((relOf x p i).needs.l.take j).foldl (fun s r => dfs x p n s r.pack.toNat) (s ||| 2 ^ i)) ++ [AObj.dead]), g⟩) (fun (j : Nat) => (j ≤ (relOf x p i).needs.l.length)) (fun (j : Nat) => ((relOf x p i).needs.l.length - j)) 0 (to_le ⟨(Le.refl _), ⟨(Le.refl _), ⟨(Le.refl _), ⟨(Le.of_eq (by kernel_rfl)), trivial⟩⟩⟩⟩ ⟨LeO.rflc, ⟨LeO.rflc, ⟨⟨rfl, Nat.le_refl _, fun j hj => match j, hj with | 0, _ => (Le.of_eq ?_) ⟩, ⟨LeO.rflc, ⟨(LeO.dead _), trivial⟩⟩⟩⟩⟩ rfl) ?_ (fun j hi => ?_))
    ·exact congrArg (AV.int IntKind.u64) (bit_set s i (by omega) (by omega))
    ·exact Nat.zero_le _
    ·obtain ⟨hS1, hS2⟩ := hS j
     have hj : j < (relOf x p i).needs.l.length → 0 ≤ ((relOf x p i).needs.l.getD j default).pack ∧ ((relOf x p i).needs.l.getD j default).pack < x.l.length := fun hj => hw i hx _ (getD_mem _ _ hj)
     refine vcQ [] (lkL [(4, [4, 27, 28, 29, 30]), (5, [4, 9, 27, 28, 29]), (6, [4, 27, 28, 29]), (7, [4, 27, 28, 29])]) (lkL [(5, [(3, ROrc.val (Orc.obj (nth [int i64 ((relOf x p i).needs.l.getD j default).pack, int i64 ((relOf x p i).needs.l.getD j default).low, int i64 ((relOf x p i).needs.l.getD j default).high])))]), (6, [(3, ROrc.call (tup 0 fun (j : Nat) => any) [cells false 2 (nth [encPacks x, encR gl]), cells false 8 fun (a : Nat) => int i64 (p a), cells false 1 fun (j_1 : Nat) => int u64 (↑(dfs x p n (List.foldl (fun (s : Nat) (r : Rng) => dfs x p n s (r.pack.toNat)) (s ||| 2 ^ i) (List.take j (relOf x p i).needs.l)) (((relOf x p i).needs.l.getD j default).pack.toNat)) : Int), cells false 1 (nth [fn 105 0 (nth []) 4 (nth [ref 2 0, ref 0 0, ref 1 0, ref 3 0])]), dead, cells false 3 (nth [int i64 ((relOf x p i).needs.l.getD j default).pack, int i64 ((relOf x p i).needs.l.getD j default).low, int i64 ((relOf x p i).needs.l.getD j default).high])] g)])]) (fun Q => (fun (u1 : List AV) => (fun (u2 : List AObj) => (fun (u3 : Int) => (fun (u4 : AObj) => (fun (u5 : Int) => (fun (u6 : AObj) => (decide (u5 < u3) = true → (0 ≤ u5 ∧ u5 < u3) ∧ 3 ≤ 3 ∧ 3 ≤ 3 ∧ (∀ (c : Nat), c < 3 → nth u1 c = over (nth [int i64 0, int i64 0, int i64 0]) 0 3 (List.brecOn (motive := fun (x : List AV) => Nat → AV) u1 nth._f) c) ∧ 1 ≤ 1 ∧ 1 ≤ 3 ∧ (true = true ∧ Does Tryd.prog R 105 [int i64 ((relOf x p i).needs.l.getD j default).pack, ref 2 0, ref 0 0, ref 1 0, ref 3 0] [cells false 2 (nth [encPacks x, encR gl]), cells false 8 fun (a : Nat) => int i64 (p a), u4, u6, dead, cells false 3 (nth u1)] g (ret (tup 0 fun (j : Nat) => any)) u2 g) ∧ (-9223372036854775808 ≤ u5 + 1 ∧ u5 + 1 ≤ 9223372036854775807) ∧ Q AEx.normal (St.mk [(4, ref 3 0), (27, encR (relOf x p i).needs), (28, int i64 u3), (29, int i64 (u5 + 1))] u2 g)) ∧ (decide (u5 < u3) = false → Q (AEx.exit 0) (St.mk [(4, ref 3 0), (27, encR (relOf x p i).needs), (28, int i64 u3), (29, int i64 u5), (30, AV.bool (decide (u5 < u3)))] [cells false 2 (nth [encPacks x, encR gl]), cells false 8 fun (a : Nat) => int i64 (p a), u4, u6, dead] g))) (cells false 1 (nth [fn 105 0 (nth []) 4 (nth [ref 2 0, ref 0 0, ref 1 0, ref 3 0])]))) ((j : Int))) (cells false 1 fun (x_1 : Nat) => int u64 (↑(List.foldl (fun (s : Nat) (r : Rng) => dfs x p n s (r.pack.toNat)) (s ||| 2 ^ i) (List.take j (relOf x p i).needs.l)) : Int))) ((↑((relOf x p i).needs.l.length) : Int))) ([cells false 2 (nth [encPacks x, encR gl]), cells false 8 fun (a : Nat) => int i64 (p a), cells false 1 fun (j_1 : Nat) => int u64 (↑(dfs x p n (List.foldl (fun (s : Nat) (r : Rng) => dfs x p n s (r.pack.toNat)) (s ||| 2 ^ i) (List.take j (relOf x p i).needs.l)) (((relOf x p i).needs.l.getD j default).pack.toNat)) : Int), cells false 1 (nth [fn 105 0 (nth []) 4 (nth [ref 2 0, ref 0 0, ref 1 0, ref 3 0])]), dead, cells false 3 (nth u1)])) ([int i64 ((relOf x p i).needs.l.getD j default).pack, int i64 ((relOf x p i).needs.l.getD j default).low, int i64 ((relOf x p i).needs.l.getD j default).high])) (fun _ => by kernel_rfl) ⟨fun c1 => have c1 : (j : Int) < (↑((relOf x p i).needs.l.length) : Int) := (of_decide_eq_true c1); ⟨(by omega), ⟨(by omega), ⟨(by omega), ⟨(fun c hc => match c, hc with | 0, _ => (by kernel_rfl) | 1, _ => (by kernel_rfl) | 2, _ => (by kernel_rfl) ), ⟨(by omega), ⟨(by omega), ⟨⟨rfl, (does_sub' [0, 1, 2, 3] 6 (fun R g => ih R g (((relOf x p i).needs.l.getD j default).pack) (List.foldl (fun (s : Nat) (r : Rng) => dfs x p n s (r.pack.toNat)) (s ||| 2 ^ i) (List.take j (relOf x p i).needs.l)) (by simp at * <;> omega) (by simp at * <;> omega) (by omega) (by omega)) rfl rfl rfl (by exact ⟨⟨rfl, Nat.le_refl _, fun j hj => match j, hj with | 0, _ => (Le.refl _) | 1, _ => (Le.refl _) ⟩, ⟨⟨rfl, Nat.le_refl _, fun j hj => match j, hj with | 0, _ => (Le.refl _) | 1, _ => (Le.refl _) | 2, _ => (Le.refl _) | 3, _ => (Le.refl _) | 4, _ => (Le.refl _) | 5, _ => (Le.refl _) | 6, _ => (Le.refl _) | 7, _ => (Le.refl _) ⟩, ⟨⟨rfl, Nat.le_refl _, fun j hj => match j, hj with | 0, _ => (Le.refl _) ⟩, ⟨⟨rfl, Nat.le_refl _, fun j hj => match j, hj with | 0, _ => (Le.fn (fun i hi => absurd hi (by omega)) (fun i hi => match i, hi with | 0, _ => (Le.refl _) | 1, _ => (Le.refl _) | 2, _ => (Le.refl _) | 3, _ => (Le.refl _) )) ⟩, trivial⟩⟩⟩⟩) (by exact ⟨by omega, ⟨by omega, ⟨by omega, ⟨by omega, trivial⟩⟩⟩⟩) (by exact ⟨le_ren (by exact trivial), ⟨(Le.refl _), ⟨(Le.refl _), ⟨(Le.refl _), ⟨(Le.refl _), trivial⟩⟩⟩⟩⟩) (by exact le_unren (by exact trivial)) (by exact ⟨⟨rfl, Nat.le_refl _, fun j hj => match j, hj with | 0, _ => (Le.refl _) | 1, _ => (Le.refl _) ⟩, ⟨⟨rfl, Nat.le_refl _, fun j hj => match j, hj with | 0, _ => (Le.refl _) | 1, _ => (Le.refl _) | 2, _ => (Le.refl _) | 3, _ => (Le.refl _) | 4, _ => (Le.refl _) | 5, _ => (Le.refl _) | 6, _ => (Le.refl _) | 7, _ => (Le.refl _) ⟩, ⟨LeO.rflc, ⟨⟨rfl, Nat.le_refl _, fun j hj => match j, hj with | 0, _ => (Le.fn (fun i hi => absurd hi (by omega)) (fun i hi => match i, hi with | 0, _ => (Le.refl _) | 1, _ => (Le.refl _) | 2, _ => (Le.refl _) | 3, _ => (Le.refl _) )) ⟩, ⟨trivial, ⟨LeO.rflc, trivial⟩⟩⟩⟩⟩⟩))⟩, ⟨(by omega), ?_⟩⟩⟩⟩⟩⟩⟩⟩, fun c1 => have c1 : ¬(j : Int) < (↑((relOf x p i).needs.l.length) : Int) := (of_decide_eq_false c1); ?_⟩
     ·refine (next_round (j + 1) (to_sel [0, 1, 2, 3, 4] 6 rfl rfl rfl rfl rfl ⟨(Le.refl _), ⟨(Le.refl _), ⟨(Le.refl _), ⟨(Le.refl _), trivial⟩⟩⟩⟩ ⟨⟨rfl, Nat.le_refl _, fun j hj => match j, hj with | 0, _ => (Le.refl _) | 1, _ => (Le.refl _) ⟩, ⟨⟨rfl, Nat.le_refl _, fun j hj => match j, hj with | 0, _ => (Le.refl _) | 1, _ => (Le.refl _) | 2, _ => (Le.refl _) | 3, _ => (Le.refl _) | 4, _ => (Le.refl _) | 5, _ => (Le.refl _) | 6, _ => (Le.refl _) | 7, _ => (Le.refl _) ⟩, ⟨⟨rfl, Nat.le_refl _, fun j hj => match j, hj with | 0, _ => (Le.of_eq ?_) ⟩, ⟨⟨rfl, Nat.le_refl _, fun j hj => match j, hj with | 0, _ => (Le.fn (fun i hi => absurd hi (by omega)) (fun i hi => match i, hi with | 0, _ => (Le.refl _) | 1, _ => (Le.refl _) | 2, _ => (Le.refl _) | 3, _ => (Le.refl _) )) ⟩, ⟨trivial, trivial⟩⟩⟩⟩⟩) ?_ ?_)
      ·exact congrArg (fun n : Nat => AV.int IntKind.u64 n) (foldl_take_succ (f := fun s (r : Rng) => dfs x p n s r.pack.toNat) (by omega)).symm
      ·omega
      ·omega
     ·have hj' : j = (relOf x p i).needs.l.length := by omega
      have hd : dfs x p (n + 1) s i = (((relOf x p i).needs.l.take j).foldl (fun s r => dfs x p n s r.pack.toNat) (s ||| 2 ^ i)) := by
       rw [hj', List.take_length]
       conv => lhs; unfold dfs
       rw [ht]; rfl
      rw [hd]
      refine ⟨_, To.refl _, (retQ_le (retQ_take' 4 _ _ rfl trivial (by omega) trivial ⟨(fun j hj => match j, hj with | 0, _ => trivial | 1, _ => trivial ), ⟨(fun j hj => match j, hj with | 0, _ => trivial | 1, _ => trivial | 2, _ => trivial | 3, _ => trivial | 4, _ => trivial | 5, _ => trivial | 6, _ => trivial | 7, _ => trivial ), ⟨(fun j hj => match j, hj with | 0, _ => trivial ), ⟨(fun j hj => match j, hj with | 0, _ => ⟨trivial, ⟨⟨⟨⟨trivial, (show 3 ≤ 4 by omega)⟩, (show 1 ≤ 4 by omega)⟩, (show 2 ≤ 4 by omega)⟩, (show 4 ≤ 4 by omega)⟩⟩ ), trivial⟩⟩⟩⟩ (by kernel_rfl) rfl rfl) (Le.refl _))⟩
theorem c_needed1 (x : Ix) (gl : KL Rng) (p : Nat → Int) (h8 : x.l.length ≤ 8) (h : inP x p) (hw : wfN x p) (hl : smallN x p) (R : Res) (g : R.σ) (k : Int) (s : Nat) (hk : 0 ≤ k) (hx : k < x.l.length) (hs : s < 2 ^ 8) (hr : room s ≤ 8) : Does Tryd.prog R 105 [.int .i64 k, .ref 2 0, .ref 0 0, .ref 1 0, .ref 3 0] (hpN x gl p s) g (.ret (.tup 0 (nth []))) (hpN x gl p (dfs x p 8 s k.toNat)) g :=
 needed1_all x gl p h8 h hw hl 8 R g k s hk hx hs hr
def neededN (x : Ix) (gl : List Rng) (p : Nat → Int) : Nat := gl.foldl (fun s r => dfs x p 8 s r.pack.toNat) 0
theorem neededN_lt {x : Ix} {gl : List Rng} {p : Nat → Int} (h8 : x.l.length ≤ 8) (hw : wfN x p) (hgl : ∀ r ∈ gl, 0 ≤ r.pack ∧ r.pack < x.l.length) : neededN x gl p < 2 ^ 8 := by
 refine foldl_keep (P := fun s => s < 2 ^ 8) (fun s hs r hr => ?_) (by decide)
 have := hgl r hr
 exact dfs_lt h8 hw 8 s _ (by omega) hs
theorem c_needed (R : Res) (x : Ix) (gl : KL Rng) (p : Nat → Int) (hp : List AObj) (g : R.σ) (h8 : x.l.length ≤ 8) (h : inP x p) (hw : wfN x p) (hl : smallN x p) (hg : gl.l.length < 1000000) (hgl : ∀ r ∈ gl.l, 0 ≤ r.pack ∧ r.pack < x.l.length) : Does Tryd.prog R 98 [encMkt x gl, encPlan p] hp g (.ret (.int .u64 (neededN x gl.l p))) hp g := by
 refine does_any' (fun R g => ?_) (by exact ⟨⟨⟨trivial, trivial⟩, trivial⟩, ⟨⟨⟨⟨⟨⟨⟨⟨⟨trivial, trivial⟩, trivial⟩, trivial⟩, trivial⟩, trivial⟩, trivial⟩, trivial⟩, trivial⟩, trivial⟩⟩) R hp g
 refine spec_of_wp (nt := 23) (rs := [.tmp 4]) (k0 := 0) (by kernel_rfl) (by kernel_rfl) (by kernel_rfl) rfl ?_
 refine vcQ [] (lkL [(0, [2, 3]), (1, [2, 3, 5]), (2, [2, 3, 5, 6]), (3, [2, 5, 6]), (4, [5, 6, 11, 12, 13])]) (lkL [(3, [(1, ROrc.val (Orc.obj (nth [fn 105 0 (nth []) 4 (nth [ref 2 0, ref 0 0, ref 1 0, ref 3 0])])))])]) (fun Q => (fun (u1 : AV) => 1 ≤ 1 ∧ (∀ (c : Nat), c < 1 → nth [u1] c = over (fun (a : Nat) => AV.nilf) 0 1 (fun (x : Nat) => u1) c) ∧ 2 ≤ 2 ∧ Wp Tryd.prog R 23 0 Rd.top (bodyOf Tryd.prog 98) [1, 1, 1, 1, 0, 1, 0] (contQ Tryd.prog R 23 0 Rd.top (bodyOf Tryd.prog 98) Q [Kont.blk 0, Kont.seq [1, 1, 1, 1, 1]]) (St.mk [(5, ref 2 0), (6, ref 3 0), (11, encR gl), (12, int i64 (gl.l.length : Int)), (13, int i64 0)] [cells false 2 (nth [encPacks x, encR gl]), cells false 8 fun (a : Nat) => int i64 (p a), cells false 1 fun (a : Nat) => int u64 0, cells false 1 (nth [u1])] g)) (fn 105 0 (nth []) 4 (nth [ref 2 0, ref 0 0, ref 1 0, ref 3 0]))) (fun _ => by kernel_rfl) ⟨(by omega), ⟨(fun c hc => match c, hc with | 0, _ => (by kernel_rfl) ), ⟨(by omega), ?_⟩⟩⟩
 have hS : ∀ j, room ((gl.l.take j).foldl (fun s r => dfs x p 8 s r.pack.toNat) 0) ≤ 8 ∧ (gl.l.take j).foldl (fun s r => dfs x p 8 s r.pack.toNat) 0 < 2 ^ 8 := by
  intro j
  refine ⟨Nat.le_trans (List.length_filter_le _ _) (by simp), ?_⟩
  refine foldl_keep (P := fun s => s < 2 ^ 8) (fun s hs r hr => ?_) (by decide)
  have := hgl r (List.mem_of_mem_take hr)
  exact dfs_lt h8 hw 8 s _ (by omega) hs
 refine (wp_loop (by kernel_rfl) (fun (j : Nat) => ⟨[(5, ref 2 0), (6, ref 3 0), (11, encR gl), (12, int i64 (gl.l.length : Int)), (13, .int .i64 (j : Int))], (hpN x gl p ((gl.l.take j).foldl (fun s r => dfs x p 8 s r.pack.toNat) 0)), g⟩) (fun (j : Nat) => (j ≤ gl.l.length)) (fun (j : Nat) => (gl.l.length - j)) 0 (to_le ⟨(Le.refl _), ⟨(Le.refl _), ⟨(Le.refl _), ⟨(Le.refl _), ⟨(Le.of_eq (by kernel_rfl)), trivial⟩⟩⟩⟩⟩ ⟨LeO.rflc, ⟨LeO.rflc, ⟨LeO.rflc, ⟨LeO.rflc, trivial⟩⟩⟩⟩ rfl) ?_ (fun j hi => ?_))
 ·exact Nat.zero_le _
 ·obtain ⟨hS1, hS2⟩ := hS j
  have hj : j < gl.l.length → 0 ≤ (gl.l.getD j default).pack ∧ (gl.l.getD j default).pack < x.l.length := fun hj => hgl _ (getD_mem _ _ hj)
  refine vcQ [] (lkL [(5, [5, 6, 11, 12, 13, 14]), (6, [5, 6, 8, 11, 12, 13]), (7, [5, 6, 11, 12, 13]), (8, [5, 6, 11, 12, 13])]) (lkL [(6, [(3, ROrc.val (Orc.obj (nth [int i64 (gl.l.getD j default).pack, int i64 (gl.l.getD j default).low, int i64 (gl.l.getD j default).high])))]), (7, [(3, ROrc.call (tup 0 fun (j : Nat) => any) [cells false 2 (nth [encPacks x, encR gl]), cells false 8 fun (a : Nat) => int i64 (p a), cells false 1 fun (j_1 : Nat) => int u64 (↑(dfs x p 8 (List.foldl (fun (s : Nat) (r : Rng) => dfs x p 8 s (r.pack.toNat)) 0 (List.take j gl.l)) ((gl.l.getD j default).pack.toNat)) : Int), cells false 1 (nth [fn 105 0 (nth []) 4 (nth [ref 2 0, ref 0 0, ref 1 0, ref 3 0])]), cells false 3 (nth [int i64 (gl.l.getD j default).pack, int i64 (gl.l.getD j default).low, int i64 (gl.l.getD j default).high])] g)])]) (fun Q => (fun (u1 : List AObj) => (fun (u2 : List AV) => (fun (u3 : Int) => (fun (u4 : AObj) => (fun (u5 : Int) => (fun (u6 : AObj) => (decide (u5 < u3) = true → (0 ≤ u5 ∧ u5 < u3) ∧ 3 ≤ 3 ∧ 3 ≤ 3 ∧ (∀ (c : Nat), c < 3 → nth u2 c = over (nth [int i64 0, int i64 0, int i64 0]) 0 3 (List.brecOn (motive := fun (x : List AV) => Nat → AV) u2 nth._f) c) ∧ 1 ≤ 1 ∧ 1 ≤ 3 ∧ (true = true ∧ Does Tryd.prog R 105 [int i64 (gl.l.getD j default).pack, ref 2 0, ref 0 0, ref 1 0, ref 3 0] [cells false 2 (nth [encPacks x, encR gl]), cells false 8 fun (a : Nat) => int i64 (p a), u4, u6, cells false 3 (nth u2)] g (ret (tup 0 fun (j : Nat) => any)) u1 g) ∧ (-9223372036854775808 ≤ u5 + 1 ∧ u5 + 1 ≤ 9223372036854775807) ∧ Q AEx.normal (St.mk [(5, ref 2 0), (6, ref 3 0), (11, encR gl), (12, int i64 u3), (13, int i64 (u5 + 1))] u1 g)) ∧ (decide (u5 < u3) = false → Q (AEx.exit 0) (St.mk [(5, ref 2 0), (6, ref 3 0), (11, encR gl), (12, int i64 u3), (13, int i64 u5), (14, AV.bool (decide (u5 < u3)))] [cells false 2 (nth [encPacks x, encR gl]), cells false 8 fun (a : Nat) => int i64 (p a), u4, u6] g))) (cells false 1 (nth [fn 105 0 (nth []) 4 (nth [ref 2 0, ref 0 0, ref 1 0, ref 3 0])]))) ((j : Int))) (cells false 1 fun (x_1 : Nat) => int u64 (↑(List.foldl (fun (s : Nat) (r : Rng) => dfs x p 8 s (r.pack.toNat)) 0 (List.take j gl.l)) : Int))) ((gl.l.length : Int))) ([int i64 (gl.l.getD j default).pack, int i64 (gl.l.getD j default).low, int i64 (gl.l.getD j default).high])) ([cells false 2 (nth [encPacks x, encR gl]), cells false 8 fun (a : Nat) => int i64 (p a), cells false 1 fun (j_1 : Nat) => int u64 (↑(dfs x p 8 (List.foldl (fun (s : Nat) (r : Rng) => dfs x p 8 s (r.pack.toNat)) 0 (List.take j gl.l)) ((gl.l.getD j default).pack.toNat)) : Int), cells false 1 (nth [fn 105 0 (nth []) 4 (nth [ref 2 0, ref 0 0, ref 1 0, ref 3 0])]), cells false 3 (nth [int i64 (gl.l.getD j default).pack, int i64 (gl.l.getD j default).low, int i64 (gl.l.getD j default).high])])) (fun _ => by kernel_rfl) ⟨fun c1 => have c1 : (j : Int) < (gl.l.length : Int) := (of_decide_eq_true c1); ⟨(by omega), ⟨(by omega), ⟨(by omega), ⟨(fun c hc => match c, hc with | 0, _ => (by kernel_rfl) | 1, _ => (by kernel_rfl) | 2, _ => (by kernel_rfl) ), ⟨(by omega), ⟨(by omega), ⟨⟨rfl, (does_sub' [0, 1, 2, 3] 5 (fun R g => Go.Avm.Pack.c_needed1 (x) (gl) (p) (by omega) (by omega) (by omega) (by omega) R g ((gl.l.getD j default).pack) (List.foldl (fun (s : Nat) (r : Rng) => dfs x p 8 s (r.pack.toNat)) 0 (List.take j gl.l)) (by simp at * <;> omega) (by simp at * <;> omega) (by omega) (by omega)) rfl rfl rfl (by exact ⟨⟨rfl, Nat.le_refl _, fun j hj => match j, hj with | 0, _ => (Le.refl _) | 1, _ => (Le.refl _) ⟩, ⟨⟨rfl, Nat.le_refl _, fun j hj => match j, hj with | 0, _ => (Le.refl _) | 1, _ => (Le.refl _) | 2, _ => (Le.refl _) | 3, _ => (Le.refl _) | 4, _ => (Le.refl _) | 5, _ => (Le.refl _) | 6, _ => (Le.refl _) | 7, _ => (Le.refl _) ⟩, ⟨⟨rfl, Nat.le_refl _, fun j hj => match j, hj with | 0, _ => (Le.refl _) ⟩, ⟨⟨rfl, Nat.le_refl _, fun j hj => match j, hj with | 0, _ => (Le.fn (fun i hi => absurd hi (by omega)) (fun i hi => match i, hi with | 0, _ => (Le.refl _) | 1, _ => (Le.refl _) | 2, _ => (Le.refl _) | 3, _ => (Le.refl _) )) ⟩, trivial⟩⟩⟩⟩) (by exact ⟨by omega, ⟨by omega, ⟨by omega, ⟨by omega, trivial⟩⟩⟩⟩) (by exact ⟨le_ren (by exact trivial), ⟨(Le.refl _), ⟨(Le.refl _), ⟨(Le.refl _), ⟨(Le.refl _), trivial⟩⟩⟩⟩⟩) (by exact le_unren (by exact trivial)) (by exact ⟨⟨rfl, Nat.le_refl _, fun j hj => match j, hj with | 0, _ => (Le.refl _) | 1, _ => (Le.refl _) ⟩, ⟨⟨rfl, Nat.le_refl _, fun j hj => match j, hj with | 0, _ => (Le.refl _) | 1, _ => (Le.refl _) | 2, _ => (Le.refl _) | 3, _ => (Le.refl _) | 4, _ => (Le.refl _) | 5, _ => (Le.refl _) | 6, _ => (Le.refl _) | 7, _ => (Le.refl _) ⟩, ⟨LeO.rflc, ⟨⟨rfl, Nat.le_refl _, fun j hj => match j, hj with | 0, _ => (Le.fn (fun i hi => absurd hi (by omega)) (fun i hi => match i, hi with | 0, _ => (Le.refl _) | 1, _ => (Le.refl _) | 2, _ => (Le.refl _) | 3, _ => (Le.refl _) )) ⟩, ⟨LeO.rflc, trivial⟩⟩⟩⟩⟩))⟩, ⟨(by omega), ?_⟩⟩⟩⟩⟩⟩⟩⟩, fun c1 => have c1 : ¬(j : Int) < (gl.l.length : Int) := (of_decide_eq_false c1); ?_⟩
  ·refine (next_round (j + 1) (to_sel [0, 1, 2, 3] 5 rfl rfl rfl rfl rfl ⟨(Le.refl _), ⟨(Le.refl _), ⟨(Le.refl _), ⟨(Le.refl _), ⟨(Le.refl _), trivial⟩⟩⟩⟩⟩ ⟨⟨rfl, Nat.le_refl _, fun j hj => match j, hj with | 0, _ => (Le.refl _) | 1, _ => (Le.refl _) ⟩, ⟨⟨rfl, Nat.le_refl _, fun j hj => match j, hj with | 0, _ => (Le.refl _) | 1, _ => (Le.refl _) | 2, _ => (Le.refl _) | 3, _ => (Le.refl _) | 4, _ => (Le.refl _) | 5, _ => (Le.refl _) | 6, _ => (Le.refl _) | 7, _ => (Le.refl _) ⟩, ⟨⟨rfl, Nat.le_refl _, fun j hj => match j, hj with | 0, _ => (Le.of_eq ?_) ⟩, ⟨⟨rfl, Nat.le_refl _, fun j hj => match j, hj with | 0, _ => (Le.fn (fun i hi => absurd hi (by omega)) (fun i hi => match i, hi with | 0, _ => (Le.refl _) | 1, _ => (Le.refl _) | 2, _ => (Le.refl _) | 3, _ => (Le.refl _) )) ⟩, trivial⟩⟩⟩⟩) ?_ ?_)
   ·exact congrArg (fun n : Nat => AV.int IntKind.u64 n) (foldl_take_succ (f := fun s (r : Rng) => dfs x p 8 s r.pack.toNat) (by omega)).symm
   ·omega
   ·omega
  ·have hj' : j = gl.l.length := by omega
   rw [hj', List.take_length]
   refine ⟨_, To.refl _, vcQ [] (lkL [(9, [4])]) (fun _ => []) (fun Q => (fun (u1 : AV) => 1 ≤ 1 ∧ Q AEx.ret (St.mk [(4, u1)] [cells false 2 (nth [encPacks x, encR gl]), cells false 8 fun (a : Nat) => int i64 (p a), cells false 1 fun (x_1 : Nat) => u1, cells false 1 (nth [fn 105 0 (nth []) 4 (nth [ref 2 0, ref 0 0, ref 1 0, ref 3 0])])] g)) (int u64 (↑(List.foldl (fun (s : Nat) (r : Rng) => dfs x p 8 s (r.pack.toNat)) 0 gl.l) : Int))) (fun _ => by kernel_rfl) ⟨(by omega), ?_⟩⟩
   refine (retQ_le (retQ_drop _ _ rfl trivial trivial rfl) (Le.of_eq (by kernel_rfl)))
end Go.Avm.Pack
namespace Go.Avm.Pack
open Go Go.Avm Go.Proofs
open Go.IntKind (i64 u64)
open Go.Avm.AV (int bool any fz fp sl ow ref fn ifc val agg tup)
open Go.Avm.AObj (cells dead)
open Go.Avm.Oc (ret)
set_option maxRecDepth 4000
def fstN (n : Nat) (q : Nat → Bool) : Option Nat := (List.range n).find? q
theorem fstN_some {n i : Nat} {q : Nat → Bool} (h : i < n) (hq : q i = true) (hb : ∀ j, j < i → q j = false) : fstN n q = some i := by
 unfold fstN
 rw [List.find?_range_eq_some]
 refine ⟨hq, by simpa using h, fun j hj => ?_⟩
 simp [hb j hj]
theorem fstN_none {n : Nat} {q : Nat → Bool} (hb : ∀ j, j < n → q j = false) : fstN n q = none := by
 unfold fstN
 rw [List.find?_eq_none]
 intro j hj
 simp [hb j (by simpa using hj)]
def metB (p : Nat → Int) (r : Rng) : Bool := inR (p r.pack.toNat) r
def badB (x : Ix) (gl : List Rng) (p : Nat → Int) (pass i : Nat) : Bool := (p i != -1) && (if pass = 0 then !((relOf x p i).needs.l.all (metB p)) else if pass = 1 then (relOf x p i).bars.l.any (metB p) else !((neededN x gl p).testBit i))
def lookR (x : Ix) (gl : List Rng) (p : Nat → Int) : Option (Int × Int) :=
 match fstN gl.length (fun j => !(metB p (gl.getD j default))) with
 | some j => some (1, j)
 | none => match fstN x.l.length (badB x gl p 0) with
   | some i => some (2, i)
   | none => match fstN x.l.length (badB x gl p 1) with
     | some i => some (3, i)
     | none => match fstN x.l.length (badB x gl p 2) with
       | some i => some (4, i)
       | none => none
theorem look_some {x : Ix} {gl : List Rng} {p : Nat → Int} {a i : Nat} (hG : fstN gl.length (fun j => !(metB p (gl.getD j default))) = none) (h4 : ∀ b, b < a → ∀ i, i < x.l.length → badB x gl p b i = false) (h6 : ∀ k, k < i → badB x gl p a k = false) (hi : i < x.l.length) (hb : badB x gl p a i = true) (ha : a < 3) :
  lookR x gl p = some ((a : Int) + 2, (i : Int)) := by
 have n0 : 0 < a → fstN x.l.length (badB x gl p 0) = none := fun h => fstN_none (h4 0 h)
 have n1 : 1 < a → fstN x.l.length (badB x gl p 1) = none := fun h => fstN_none (h4 1 h)
 have hs := fstN_some hi hb h6
 unfold lookR
 rw [hG]
 rcases (show a = 0 ∨ a = 1 ∨ a = 2 by omega) with e | e | e
 ·subst e; simp only [hs]; rfl
 ·subst e; simp only [n0 (by omega), hs]; rfl
 ·subst e; simp only [n0 (by omega), n1 (by omega), hs]; rfl
theorem look_none {x : Ix} {gl : List Rng} {p : Nat → Int} (hG : fstN gl.length (fun j => !(metB p (gl.getD j default))) = none) (h4 : ∀ b, b < 3 → ∀ i, i < x.l.length → badB x gl p b i = false) : lookR x gl p = none := by
 have n0 : fstN x.l.length (badB x gl p 0) = none := fstN_none (h4 0 (by omega))
 have n1 : fstN x.l.length (badB x gl p 1) = none := fstN_none (h4 1 (by omega))
 have n2 : fstN x.l.length (badB x gl p 2) = none := fstN_none (h4 2 (by omega))
 unfold lookR
 simp only [hG, n0, n1, n2]
def wfB (x : Ix) (p : Nat → Int) : Prop := ∀ i, i < x.l.length → ∀ r ∈ (relOf x p i).bars.l, 0 ≤ r.pack ∧ r.pack < x.l.length
def smallB' (x : Ix) (p : Nat → Int) : Prop := ∀ i, (relOf x p i).bars.l.length < 1000000
def lookOc : Option (Int × Int) → Oc
 | none => .ret (.tup 0 (nth []))
 | some (f, i) => .pan (.ifc 93 (.agg 2 (nth [.int .i64 f, .int .i64 i])))
theorem look_all (R : Res) (x : Ix) (gl : KL Rng) (p : Nat → Int) (hp : List AObj) (g : R.σ) (h8 : x.l.length ≤ 8) (h : inP x p) (hw : wfN x p) (hwb : wfB x p) (hl : smallN x p) (hlb : smallB' x p) (hg : gl.l.length < 1000000) (hgl : ∀ r ∈ gl.l, 0 ≤ r.pack ∧ r.pack < x.l.length) : Does Tryd.prog R 83 [encMkt x gl, encPlan p] hp g (lookOc (lookR x gl.l p)) hp g := by
 refine does_any' (fun R g => ?_) (by exact ⟨⟨⟨trivial, trivial⟩, trivial⟩, ⟨⟨⟨⟨⟨⟨⟨⟨⟨trivial, trivial⟩, trivial⟩, trivial⟩, trivial⟩, trivial⟩, trivial⟩, trivial⟩, trivial⟩, trivial⟩⟩) R hp g
 refine spec_of_wp (nt := 92) (rs := []) (k0 := 0) (by kernel_rfl) (by kernel_rfl) (by kernel_rfl) rfl ?_
 refine vcQ [] (lkL [(0, [2, 3]), (1, [2, 3, 12, 13, 14])]) (fun _ => []) (fun Q => 2 ≤ 2 ∧ Wp Tryd.prog R 92 0 Rd.top (bodyOf Tryd.prog 83) [1, 0, 1, 0] (contQ Tryd.prog R 92 0 Rd.top (bodyOf Tryd.prog 83) Q [Kont.blk 0, Kont.seq [1, 1]]) (St.mk [(2, ref 0 0), (3, ref 1 0), (12, encR gl), (13, int i64 (gl.l.length : Int)), (14, int i64 0)] [cells false 2 (nth [encPacks x, encR gl]), cells false 8 fun (a : Nat) => int i64 (p a)] g)) (fun _ => by kernel_rfl) ⟨(by omega), ?_⟩
 refine (wp_loop (by kernel_rfl) (fun (j : Nat) => ⟨[(2, ref 0 0), (3, ref 1 0), (12, encR gl), (13, int i64 (gl.l.length : Int)), (14, .int .i64 (j : Int))], [cells false 2 (nth [encPacks x, encR gl]), cells false 8 fun (a : Nat) => int i64 (p a)], g⟩) (fun (j : Nat) => (j ≤ gl.l.length ∧ ∀ k, k < j → metB p (gl.l.getD k default) = true)) (fun (j : Nat) => (gl.l.length - j)) 0 (to_fr ⟨(Le.refl _), ⟨(Le.refl _), ⟨(Le.refl _), ⟨(Le.refl _), ⟨(Le.of_eq (by kernel_rfl)), trivial⟩⟩⟩⟩⟩ rfl rfl) ?_ (fun j hi => ?_))
 ·exact ⟨Nat.zero_le _, fun k hk => absurd hk (by omega)⟩
 ·obtain ⟨h1, h2⟩ := hi
  have hj : j < gl.l.length → 0 ≤ (gl.l.getD j default).pack ∧ (gl.l.getD j default).pack < x.l.length := fun hj => hgl _ (getD_mem _ _ hj)
  refine vcQ [] (lkL [(2, [2, 3, 12, 13, 14, 15]), (3, [2, 3, 4, 5, 12, 13, 14]), (4, [2, 3, 4, 12, 13, 14, 22]), (5, [2, 3, 12, 13, 14]), (6, [2, 3, 12, 13, 14])]) (lkL [(3, [(5, ROrc.val (Orc.obj (nth [int i64 (gl.l.getD j default).pack, int i64 (gl.l.getD j default).low, int i64 (gl.l.getD j default).high])))]), (4, [(2, ROrc.pcall (AV.bool (inR (p ((gl.l.getD j default).pack.toNat)) (gl.l.getD j default))))])]) (fun Q => (fun (u1 : Rng) => (fun (u2 : Int) => (fun (u3 : List AObj) => (fun (u4 : Int) => (fun (u5 : Bool) => (decide (u4 < u2) = true → (0 ≤ u4 ∧ u4 < u2) ∧ 3 ≤ 3 ∧ 3 ≤ 3 ∧ (∀ (c : Nat), c < 3 → nth [int i64 u1.pack, int i64 u1.low, int i64 u1.high] c = over (nth [int i64 0, int i64 0, int i64 0]) 0 3 (List.brecOn (motive := fun (x : List AV) => Nat → AV) [int i64 u1.pack, int i64 u1.low, int i64 u1.high] nth._f) c) ∧ 8 ≤ 8 ∧ 3 ≤ 3 ∧ (∀ (hp : List AObj) (g : R.σ), true = true ∧ Does Tryd.prog R 97 [encPlan p, encRng u1] hp g (ret (AV.bool u5)) hp g) ∧ ((!u5) = true → Q (AEx.pan (ifc 93 (agg 2 (nth [int i64 1, int i64 u4])))) (St.mk [(2, ref 0 0), (3, ref 1 0), (12, encR gl), (13, int i64 u2), (14, int i64 u4)] u3 g)) ∧ ((!u5) = false → (-9223372036854775808 ≤ u4 + 1 ∧ u4 + 1 ≤ 9223372036854775807) ∧ Q AEx.normal (St.mk [(2, ref 0 0), (3, ref 1 0), (12, encR gl), (13, int i64 u2), (14, int i64 (u4 + 1))] u3 g))) ∧ (decide (u4 < u2) = false → Q (AEx.exit 0) (St.mk [(2, ref 0 0), (3, ref 1 0), (12, encR gl), (13, int i64 u2), (14, int i64 u4), (15, AV.bool (decide (u4 < u2)))] [cells false 2 (nth [encPacks x, encR gl]), cells false 8 fun (a : Nat) => int i64 (p a)] g))) (inR (p (u1.pack.toNat)) u1)) ((j : Int))) ([cells false 2 (nth [encPacks x, encR gl]), cells false 8 fun (a : Nat) => int i64 (p a), cells false 3 (nth [int i64 u1.pack, int i64 u1.low, int i64 u1.high])])) ((gl.l.length : Int))) (gl.l.getD j default)) (fun _ => by kernel_rfl) ⟨fun c1 => have c1 : (j : Int) < (gl.l.length : Int) := (of_decide_eq_true c1); ⟨(by omega), ⟨(by omega), ⟨(by omega), ⟨(fun c hc => match c, hc with | 0, _ => (by kernel_rfl) | 1, _ => (by kernel_rfl) | 2, _ => (by kernel_rfl) ), ⟨(by omega), ⟨(by omega), ⟨(fun _ _ => ⟨rfl, (Go.Avm.Pack.c_meets _ _ _ _ _ (by simp at * <;> omega) (by simp at * <;> omega))⟩), ⟨fun c2 => have c2 : inR (p ((gl.l.getD j default).pack.toNat)) (gl.l.getD j default) = false := ((Bool.not_eq_true' _).mp c2); ?_, fun c2 => have c2 : inR (p ((gl.l.getD j default).pack.toNat)) (gl.l.getD j default) = true := ((Bool.not_eq_false' _).mp c2); ⟨(by omega), ?_⟩⟩⟩⟩⟩⟩⟩⟩⟩, fun c1 => have c1 : ¬(j : Int) < (gl.l.length : Int) := (of_decide_eq_false c1); ?_⟩
  ·have : lookR x gl.l p = some (1, (j : Int)) := by
    unfold lookR
    rw [fstN_some (i := j) (by omega) (by simpa [metB] using c2) (fun k hk => by show (!(metB p _)) = false; rw [h2 k hk]; rfl)]
   rw [this]
   refine (panQ_take (P := Tryd.prog) (rs := []) 0 (by omega) ⟨⟨trivial, trivial⟩, trivial⟩ trivial (by kernel_rfl) rfl (Le.refl _))
  ·refine (next_round (j + 1) (to_sel [0, 1] 3 rfl rfl rfl rfl rfl ⟨(Le.refl _), ⟨(Le.refl _), ⟨(Le.refl _), ⟨(Le.refl _), ⟨(Le.refl _), trivial⟩⟩⟩⟩⟩ ⟨⟨rfl, Nat.le_refl _, fun j hj => match j, hj with | 0, _ => (Le.refl _) | 1, _ => (Le.refl _) ⟩, ⟨⟨rfl, Nat.le_refl _, fun j hj => match j, hj with | 0, _ => (Le.refl _) | 1, _ => (Le.refl _) | 2, _ => (Le.refl _) | 3, _ => (Le.refl _) | 4, _ => (Le.refl _) | 5, _ => (Le.refl _) | 6, _ => (Le.refl _) | 7, _ => (Le.refl _) ⟩, trivial⟩⟩) ?_ ?_)
   ·refine ⟨by omega, fun k hk => ?_⟩
    rcases Nat.lt_or_ge k j with h | h
    ·exact h2 k h
    ·have : k = j := by omega
     subst this
     exact c2
   ·omega
  ·refine ⟨_, To.refl _, vcQ [] (lkL [(7, [2, 3, 6]), (8, [2, 3, 6, 30])]) (lkL [(7, [(2, ROrc.pcall (int u64 (↑(neededN x gl.l p) : Int)))])]) (fun Q => 2 ≤ 2 ∧ 8 ≤ 8 ∧ (∀ (hp : List AObj) (g : R.σ), true = true ∧ Does Tryd.prog R 98 [encMkt x gl, encPlan p] hp g (ret (int u64 (↑(neededN x gl.l p) : Int))) hp g) ∧ Wp Tryd.prog R 92 0 Rd.top (bodyOf Tryd.prog 83) [1, 1, 1, 1, 0] (contQ Tryd.prog R 92 0 Rd.top (bodyOf Tryd.prog 83) Q [Kont.blk 2]) (St.mk [(2, ref 0 0), (3, ref 1 0), (6, int u64 (↑(neededN x gl.l p) : Int)), (30, int i64 0)] [cells false 2 (nth [encPacks x, encR gl]), cells false 8 fun (a : Nat) => int i64 (p a)] g)) (fun _ => by kernel_rfl) ⟨(by omega), ⟨(by omega), ⟨(fun _ _ => ⟨rfl, (Go.Avm.Pack.c_needed _ _ _ _ _ _ (by omega) (by omega) (by omega) (by omega) (by omega) (by omega))⟩), ?_⟩⟩⟩⟩
   have hj : j = gl.l.length := by omega
   have hG : fstN gl.l.length (fun j => !(metB p (gl.l.getD j default))) = none := fstN_none (fun k hk => by show (!(metB p _)) = false; rw [h2 k (by omega)]; rfl)
   have hN := neededN_lt h8 hw hgl
   refine (wp_loop (by kernel_rfl) (fun (a : Nat) => ⟨[(2, ref 0 0), (3, ref 1 0), (6, int u64 (↑(neededN x gl.l p) : Int)), (30, .int .i64 (a : Int))], [cells false 2 (nth [encPacks x, encR gl]), cells false 8 fun (a : Nat) => int i64 (p a)], g⟩) (fun (a : Nat) => (a ≤ 3 ∧ ∀ b, b < a → ∀ i, i < x.l.length → badB x gl.l p b i = false)) (fun (a : Nat) => (3 - a)) 0 (to_fr ⟨(Le.refl _), ⟨(Le.refl _), ⟨(Le.refl _), ⟨(Le.of_eq (by kernel_rfl)), trivial⟩⟩⟩⟩ rfl rfl) ?_ (fun a hi => ?_))
   ·exact ⟨Nat.zero_le _, fun b hb => absurd hb (by omega)⟩
   ·obtain ⟨h3, h4⟩ := hi
    refine vcQ [] (lkL [(9, [2, 3, 6, 30, 31]), (10, [2, 3, 6, 7, 30]), (11, [2, 3, 6, 7, 30, 36, 37])]) (fun _ => []) (fun Q => (fun (u1 : List AObj) => (fun (u2 : Int) => (decide (u2 < 3) = true → 1 ≤ 2 ∧ Wp Tryd.prog R 92 0 Rd.top (bodyOf Tryd.prog 83) [1, 1, 1, 1, 0, 0, 1, 1, 0, 0, 1, 1, 0] (contQ Tryd.prog R 92 0 Rd.top (bodyOf Tryd.prog 83) Q [Kont.blk 4, Kont.blk 3, Kont.seq [1, 1, 1, 1, 0, 0, 1, 1, 1]]) (St.mk [(2, ref 0 0), (3, ref 1 0), (6, int u64 (↑(neededN x gl.l p) : Int)), (7, int i64 u2), (30, int i64 u2), (36, int i64 (x.l.length : Int)), (37, int i64 0)] u1 g)) ∧ (decide (u2 < 3) = false → Q (AEx.exit 2) (St.mk [(2, ref 0 0), (3, ref 1 0), (6, int u64 (↑(neededN x gl.l p) : Int)), (30, int i64 u2), (31, AV.bool (decide (u2 < 3)))] u1 g))) ((a : Int))) ([cells false 2 (nth [encPacks x, encR gl]), cells false 8 fun (a : Nat) => int i64 (p a)])) (fun _ => by kernel_rfl) ⟨fun c1 => have c1 : (a : Int) < 3 := (of_decide_eq_true c1); ⟨(by omega), ?_⟩, fun c1 => have c1 : ¬(a : Int) < 3 := (of_decide_eq_false c1); ?_⟩
    ·have h0 : a < 3 := by omega
     refine (wp_loop (by kernel_rfl) (fun (i : Nat) => ⟨[(2, ref 0 0), (3, ref 1 0), (6, int u64 (↑(neededN x gl.l p) : Int)), (7, int i64 (a : Int)), (30, int i64 (a : Int)), (36, int i64 (x.l.length : Int)), (37, .int .i64 (i : Int))], [cells false 2 (nth [encPacks x, encR gl]), cells false 8 fun (a : Nat) => int i64 (p a)], g⟩) (fun (i : Nat) => (i ≤ x.l.length ∧ ∀ k, k < i → badB x gl.l p a k = false)) (fun (i : Nat) => (x.l.length - i)) 0 (to_fr ⟨(Le.refl _), ⟨(Le.refl _), ⟨(Le.refl _), ⟨(Le.refl _), ⟨(Le.refl _), ⟨(Le.refl _), ⟨(Le.of_eq (by kernel_rfl)), trivial⟩⟩⟩⟩⟩⟩⟩ rfl rfl) ?_ (fun i hi => ?_))
     ·exact ⟨Nat.zero_le _, fun b hb => absurd hb (by omega)⟩
     ·obtain ⟨h5, h6⟩ := hi
      have hn1 := hl i
      have hn2 := hlb i
      refine vcQ [] (lkL [(12, [2, 3, 6, 7, 30, 36, 37, 38]), (13, [2, 3, 6, 7, 8, 30, 36, 37]), (14, [2, 3, 6, 7, 8, 9, 10, 30, 36, 37]), (15, [2, 3, 6, 7, 8, 9, 30, 36, 37, 47]), (16, [2, 3, 6, 7, 8, 9, 30, 36, 37, 50]), (18, [2, 3, 6, 7, 8, 30, 36, 37, 64]), (20, [2, 3, 6, 7, 8, 30, 36, 37, 77]), (21, [2, 3, 6, 7, 30, 36, 37]), (19, [2, 3, 6, 7, 30, 36, 37]), (17, [2, 3, 6, 7, 30, 36, 37]), (22, [2, 3, 6, 7, 30, 36, 37])]) (lkL [(14, [(3, ROrc.pcall (tup 2 (nth [encRel (relOf x p i), AV.bool (p i != -1)]))), (8, ROrc.val (Orc.obj (nth [encR (relOf x p i).needs, encR (relOf x p i).bars])))]), (16, [(7, ROrc.kcall (AV.bool (List.all (relOf x p i).needs.l fun (r : Rng) => inR (p (r.pack.toNat)) r)))]), (18, [(7, ROrc.kcall (AV.bool (List.any (relOf x p i).bars.l fun (r : Rng) => inR (p (r.pack.toNat)) r)))])]) (fun Q => (fun (u1 : List AObj) => (fun (u2 : St R.σ) => (fun (u3 : St R.σ) => (fun (u4 : Bool) => (fun (u5 : Int) => (fun (u6 : Int) => (fun (u7 : Bool) => (fun (u8 : Bool) => (fun (u9 : Int) => (fun (u10 : Rel) => (decide (u6 < u5) = true → 2 ≤ 2 ∧ 8 ≤ 8 ∧ (∀ (hp : List AObj) (g : R.σ), true = true ∧ Does Tryd.prog R 99 [encMkt x gl, encPlan p, int i64 u6] hp g (ret (tup 2 (nth [encRel u10, AV.bool (p i != -1)]))) hp g) ∧ 2 ≤ 2 ∧ (∀ (c : Nat), c < 2 → nth [encR u10.needs, encR u10.bars] c = over (nth [fz Fz.nil 0 0 fun (x x_2 : Nat) => any, fz Fz.nil 0 0 fun (x x_2 : Nat) => any]) 0 2 (List.brecOn (motive := fun (x : List AV) => Nat → AV) [encR u10.needs, encR u10.bars] nth._f) c) ∧ ((!p i != -1) = true → (-9223372036854775808 ≤ u6 + 1 ∧ u6 + 1 ≤ 9223372036854775807) ∧ Q AEx.normal u3) ∧ ((!p i != -1) = false → ((u9 == 0) = true → 1 ≤ 2) ∧ ((u9 == 0) = true → 8 ≤ 8) ∧ ((u9 == 0) = true → true = true ∧ Does Tryd.prog R 39 [encR u10.needs, fn 97 1 (nth [encPlan p]) 0 (nth [])] u1 g (ret (AV.bool u7)) u1 g) ∧ ((bif u9 == 0 then !u7 else false) = true → Q (AEx.pan (ifc 93 (agg 2 (nth [int i64 2, int i64 u6])))) u2) ∧ ((bif u9 == 0 then !u7 else false) = false → ((u9 == 1) = true → 2 ≤ 2) ∧ ((u9 == 1) = true → 8 ≤ 8) ∧ ((u9 == 1) = true → true = true ∧ Does Tryd.prog R 24 [encR u10.bars, fn 97 1 (nth [encPlan p]) 0 (nth [])] u1 g (ret (AV.bool u8)) u1 g) ∧ ((bif u9 == 1 then u8 else false) = true → Q (AEx.pan (ifc 93 (agg 2 (nth [int i64 3, int i64 u6])))) u2) ∧ ((bif u9 == 1 then u8 else false) = false → ((u9 == 2) = true → 0 ≤ u6) ∧ (u4 = true → Q (AEx.pan (ifc 93 (agg 2 (nth [int i64 4, int i64 u6])))) u2) ∧ (u4 = false → (-9223372036854775808 ≤ u6 + 1 ∧ u6 + 1 ≤ 9223372036854775807) ∧ Q AEx.normal u3))))) ∧ (decide (u6 < u5) = false → Q (AEx.exit 4) (St.mk [(2, ref 0 0), (3, ref 1 0), (6, int u64 (↑(neededN x gl.l p) : Int)), (7, int i64 u9), (30, int i64 u9), (36, int i64 u5), (37, int i64 u6), (38, AV.bool (decide (u6 < u5)))] [cells false 2 (nth [encPacks x, encR gl]), cells false 8 fun (a : Nat) => int i64 (p a)] g))) (relOf x p i)) ((a : Int))) (List.any (relOf x p i).bars.l fun (r : Rng) => inR (p (r.pack.toNat)) r)) (List.all (relOf x p i).needs.l fun (r : Rng) => inR (p (r.pack.toNat)) r)) ((i : Int))) ((x.l.length : Int))) (bif (a : Int) == 2 then IntKind.wrap u64 (↑(BitVec.toNat (BitVec.ofInt 64 (Int.fdiv (↑(neededN x gl.l p) : Int) (2 ^ min i 64)) &&& BitVec.ofInt 64 1)) : Int) == 0 else false)) (St.mk [(2, ref 0 0), (3, ref 1 0), (6, int u64 (↑(neededN x gl.l p) : Int)), (7, int i64 (a : Int)), (30, int i64 (a : Int)), (36, int i64 (x.l.length : Int)), (37, int i64 ((i : Int) + 1))] u1 g)) (St.mk [(2, ref 0 0), (3, ref 1 0), (6, int u64 (↑(neededN x gl.l p) : Int)), (7, int i64 (a : Int)), (30, int i64 (a : Int)), (36, int i64 (x.l.length : Int)), (37, int i64 (i : Int))] u1 g)) ([cells false 2 (nth [encPacks x, encR gl]), cells false 8 fun (a : Nat) => int i64 (p a), cells false 2 (nth [encR (relOf x p i).needs, encR (relOf x p i).bars])])) (fun _ => by kernel_rfl) ⟨fun c1 => have c1 : (i : Int) < (x.l.length : Int) := (of_decide_eq_true c1); ⟨(by omega), ⟨(by omega), ⟨(fun _ _ => ⟨rfl, (Go.Avm.Pack.c_release _ _ _ _ _ _ _ (by omega) (by simp at * <;> omega) (by omega))⟩), ⟨(by omega), ⟨(fun c hc => match c, hc with | 0, _ => (by kernel_rfl) | 1, _ => (by kernel_rfl) ), ⟨fun c2 => have c2 : p i = -1 := (bne_eq_false_iff_eq.mp ((Bool.not_eq_true' _).mp c2)); ⟨(by omega), ?_⟩, fun c2 => have c2 : ¬p i = -1 := (bne_iff_ne.mp ((Bool.not_eq_false' _).mp c2)); ⟨(by omega), ⟨(by omega), ⟨(fun hgd => ⟨rfl, (Go.Avm.Pack.c_everyF_PackRange _ _ _ _ _ _ _ _ _ _ (by omega) (by kernel_rfl) (fun r _ => (Go.Avm.Pack.c_meets _ _ _ _ _ ?_ ?_)))⟩), ⟨fun c3 => have c3 : (a : Int) = 0 ∧ (List.all (relOf x p i).needs.l fun (r : Rng) => inR (p (r.pack.toNat)) r) = false := ⟨(beq_iff_eq.mp (cA_t c3).1), ((Bool.not_eq_true' _).mp (cA_t c3).2)⟩; ?_, fun c3 => have c3 : ¬(a : Int) = 0 ∨ (List.all (relOf x p i).needs.l fun (r : Rng) => inR (p (r.pack.toNat)) r) = true := ((cA_f c3).imp (fun h => (beq_eq_false_iff_ne.mp h)) (fun h => ((Bool.not_eq_false' _).mp h))); ⟨(by omega), ⟨(by omega), ⟨(fun hgd => ⟨rfl, (Go.Avm.Pack.c_ContainsFuncF_PackRange _ _ _ _ _ _ _ _ _ _ (by omega) (by kernel_rfl) (fun r _ => (Go.Avm.Pack.c_meets _ _ _ _ _ ?_ ?_)))⟩), ⟨fun c4 => have c4 : (a : Int) = 1 ∧ (List.any (relOf x p i).bars.l fun (r : Rng) => inR (p (r.pack.toNat)) r) = true := ⟨(beq_iff_eq.mp (cA_t c4).1), (cA_t c4).2⟩; ?_, fun c4 => have c4 : ¬(a : Int) = 1 ∨ (List.any (relOf x p i).bars.l fun (r : Rng) => inR (p (r.pack.toNat)) r) = false := ((cA_f c4).imp (fun h => (beq_eq_false_iff_ne.mp h)) (fun h => h)); ⟨(by omega), ⟨fun c5 => have c5 : (a : Int) = 2 ∧ IntKind.wrap u64 (↑(BitVec.toNat (BitVec.ofInt 64 (Int.fdiv (↑(neededN x gl.l p) : Int) (2 ^ min i 64)) &&& BitVec.ofInt 64 1)) : Int) = 0 := ⟨(beq_iff_eq.mp (cA_t c5).1), (beq_iff_eq.mp (cA_t c5).2)⟩; ?_, fun c5 => have c5 : ¬(a : Int) = 2 ∨ ¬IntKind.wrap u64 (↑(BitVec.toNat (BitVec.ofInt 64 (Int.fdiv (↑(neededN x gl.l p) : Int) (2 ^ min i 64)) &&& BitVec.ofInt 64 1)) : Int) = 0 := ((cA_f c5).imp (fun h => (beq_eq_false_iff_ne.mp h)) (fun h => (beq_eq_false_iff_ne.mp h))); ⟨(by omega), ?_⟩⟩⟩⟩⟩⟩⟩⟩⟩⟩⟩⟩⟩⟩⟩⟩⟩, fun c1 => have c1 : ¬(i : Int) < (x.l.length : Int) := (of_decide_eq_false c1); ?_⟩
      ·refine (next_round (i + 1) (to_sel [0, 1] 3 rfl rfl rfl rfl rfl ⟨(Le.refl _), ⟨(Le.refl _), ⟨(Le.refl _), ⟨(Le.refl _), ⟨(Le.refl _), ⟨(Le.refl _), ⟨(Le.refl _), trivial⟩⟩⟩⟩⟩⟩⟩ ⟨⟨rfl, Nat.le_refl _, fun j hj => match j, hj with | 0, _ => (Le.refl _) | 1, _ => (Le.refl _) ⟩, ⟨⟨rfl, Nat.le_refl _, fun j hj => match j, hj with | 0, _ => (Le.refl _) | 1, _ => (Le.refl _) | 2, _ => (Le.refl _) | 3, _ => (Le.refl _) | 4, _ => (Le.refl _) | 5, _ => (Le.refl _) | 6, _ => (Le.refl _) | 7, _ => (Le.refl _) ⟩, trivial⟩⟩) ?_ ?_)
       ·refine ⟨by omega, fun k hk => ?_⟩
        rcases Nat.lt_or_ge k i with h | h
        ·exact h6 k h
        ·have : k = i := by omega
         subst this
         unfold badB
         rw [c2]; rfl
       ·omega
      ·have := hw i (by omega) r (by assumption)
       omega
      ·have := hw i (by omega) r (by assumption)
       omega
      ·obtain ⟨e0, e1⟩ := c3
       have e0 : a = 0 := by omega
       subst e0
       have hbad : badB x gl.l p 0 i = true := by
        unfold badB
        rw [if_pos rfl, show (p i != -1) = true by simpa using c2, Bool.true_and]
        have e2 : (relOf x p i).needs.l.all (metB p) = false := e1
        rw [e2]; rfl
       rw [look_some hG h4 h6 (by omega) hbad h0]
       refine (panQ_take (P := Tryd.prog) (rs := []) 0 (by omega) ⟨⟨trivial, trivial⟩, trivial⟩ trivial (by kernel_rfl) rfl (Le.of_eq (by kernel_rfl)))
      ·have := hwb i (by omega) r (by assumption)
       omega
      ·have := hwb i (by omega) r (by assumption)
       omega
      ·obtain ⟨e0, e1⟩ := c4
       have e0 : a = 1 := by omega
       subst e0
       have hbad : badB x gl.l p 1 i = true := by
        unfold badB
        rw [if_neg (by decide), if_pos rfl, show (p i != -1) = true by simpa using c2, Bool.true_and]
        exact e1
       rw [look_some hG h4 h6 (by omega) hbad h0]
       refine (panQ_take (P := Tryd.prog) (rs := []) 0 (by omega) ⟨⟨trivial, trivial⟩, trivial⟩ trivial (by kernel_rfl) rfl (Le.of_eq (by kernel_rfl)))
      ·obtain ⟨e0, e1⟩ := c5
       have e0 : a = 2 := by omega
       subst e0
       rw [bit_test _ i (by omega) (by omega)] at e1
       have hbad : badB x gl.l p 2 i = true := by
        unfold badB
        rw [if_neg (by decide), if_neg (by decide), show (p i != -1) = true by simpa using c2, Bool.true_and]
        cases e : (neededN x gl.l p).testBit i with
        | false => rfl
        | true => rw [e] at e1; simp at e1
       rw [look_some hG h4 h6 (by omega) hbad h0]
       refine (panQ_take (P := Tryd.prog) (rs := []) 0 (by omega) ⟨⟨trivial, trivial⟩, trivial⟩ trivial (by kernel_rfl) rfl (Le.of_eq (by kernel_rfl)))
      ·refine (next_round (i + 1) (to_sel [0, 1] 3 rfl rfl rfl rfl rfl ⟨(Le.refl _), ⟨(Le.refl _), ⟨(Le.refl _), ⟨(Le.refl _), ⟨(Le.refl _), ⟨(Le.refl _), ⟨(Le.refl _), trivial⟩⟩⟩⟩⟩⟩⟩ ⟨⟨rfl, Nat.le_refl _, fun j hj => match j, hj with | 0, _ => (Le.refl _) | 1, _ => (Le.refl _) ⟩, ⟨⟨rfl, Nat.le_refl _, fun j hj => match j, hj with | 0, _ => (Le.refl _) | 1, _ => (Le.refl _) | 2, _ => (Le.refl _) | 3, _ => (Le.refl _) | 4, _ => (Le.refl _) | 5, _ => (Le.refl _) | 6, _ => (Le.refl _) | 7, _ => (Le.refl _) ⟩, trivial⟩⟩) ?_ ?_)
       ·refine ⟨by omega, fun k hk => ?_⟩
        rcases Nat.lt_or_ge k i with h | h
        ·exact h6 k h
        ·have : k = i := by omega
         subst this
         unfold badB
         rw [show (p k != -1) = true by simpa using c2, Bool.true_and]
         rcases (show a = 0 ∨ a = 1 ∨ a = 2 by omega) with e | e | e
         ·subst e
          rw [if_pos rfl]
          rcases c3 with h | h
          ·exact absurd rfl h
          ·have e2 : (relOf x p k).needs.l.all (metB p) = true := h
           rw [e2]; rfl
         ·subst e
          rw [if_neg (by decide), if_pos rfl]
          rcases c4 with h | h
          ·exact absurd rfl h
          ·exact h
         ·subst e
          rw [if_neg (by decide), if_neg (by decide)]
          rcases c5 with h | h
          ·exact absurd rfl h
          ·rw [bit_test _ k (by omega) (by omega)] at h
           cases e : (neededN x gl.l p).testBit k with
           | true => rfl
           | false => rw [e] at h; exact absurd rfl h
       ·omega
      ·refine ⟨_, To.refl _, vcQ [] (lkL [(23, [2, 3, 6, 30])]) (fun _ => []) (fun Q => (-9223372036854775808 ≤ (a : Int) + 1 ∧ (a : Int) + 1 ≤ 9223372036854775807) ∧ Q AEx.normal (St.mk [(2, ref 0 0), (3, ref 1 0), (6, int u64 (↑(neededN x gl.l p) : Int)), (30, int i64 ((a : Int) + 1))] [cells false 2 (nth [encPacks x, encR gl]), cells false 8 fun (a : Nat) => int i64 (p a)] g)) (fun _ => by kernel_rfl) ⟨(by omega), ?_⟩⟩
       refine (next_round (a + 1) (to_fr ⟨(Le.refl _), ⟨(Le.refl _), ⟨(Le.refl _), ⟨(Le.of_eq (by kernel_rfl)), trivial⟩⟩⟩⟩ rfl rfl) ?_ ?_)
       ·refine ⟨by omega, fun b hb k hk => ?_⟩
        rcases Nat.lt_or_ge b a with h | h
        ·exact h4 b h k hk
        ·have : b = a := by omega
         subst this
         exact h6 k (by omega)
       ·omega
    ·rw [look_none hG (fun b hb => h4 b (by omega))]
     refine ⟨_, To.refl _, (retQ_le (retQ_drop _ _ rfl trivial trivial rfl) (Le.refl _))⟩
theorem c_look_t (R : Res) (x : Ix) (gl : KL Rng) (p : Nat → Int) (hp : List AObj) (g : R.σ) (hn : (lookR x gl.l p).isNone = true) (h8 : x.l.length ≤ 8) (h : inP x p) (hw : wfN x p) (hwb : wfB x p) (hl : smallN x p) (hlb : smallB' x p) (hg : gl.l.length < 1000000) (hgl : ∀ r ∈ gl.l, 0 ≤ r.pack ∧ r.pack < x.l.length) : Does Tryd.prog R 83 [encMkt x gl, encPlan p] hp g (.ret (.tup 0 (nth []))) hp g := by
 have := look_all R x gl p hp g h8 h hw hwb hl hlb hg hgl
 cases e : lookR x gl.l p with
 | none => rw [e] at this; exact this
 | some a => rw [e] at hn; cases hn
theorem c_look_p (R : Res) (x : Ix) (gl : KL Rng) (p : Nat → Int) (hp : List AObj) (g : R.σ) (f i : Int) (hn : lookR x gl.l p = some (f, i)) (h8 : x.l.length ≤ 8) (h : inP x p) (hw : wfN x p) (hwb : wfB x p) (hl : smallN x p) (hlb : smallB' x p) (hg : gl.l.length < 1000000) (hgl : ∀ r ∈ gl.l, 0 ≤ r.pack ∧ r.pack < x.l.length) : Does Tryd.prog R 83 [encMkt x gl, encPlan p] hp g (.pan (.ifc 93 (.agg 2 (nth [.int .i64 f, .int .i64 i])))) hp g := by
 have := look_all R x gl p hp g h8 h hw hwb hl hlb hg hgl
 rw [hn] at this
 exact this
end Go.Avm.Pack
namespace Go.Avm.Pack
open Go Go.Avm Go.Proofs
open Go.IntKind (i64 u64)
open Go.Avm.AV (int bool any fz fp sl ow ref fn ifc val agg tup)
open Go.Avm.AObj (cells dead)
open Go.Avm.Oc (ret)
set_option maxRecDepth 4000
def hpT (x : Ix) (gl : KL Rng) (p : Nat → Int) (f i : Int) : List AObj := [.cells false 2 (nth [encPacks x, encR gl]), .cells false 8 (fun a => .int .i64 (p a)), .cells false 2 (nth [.int .i64 f, .int .i64 i])]
theorem d_fault1 (R : Res) (x : Ix) (gl : KL Rng) (p : Nat → Int) (f i : Int) (g : R.σ) : DoesD Tryd.prog R 82 [.ref 2 0] (hpT x gl p 0 0) g (some (.ifc 93 (.agg 2 (nth [.int .i64 f, .int .i64 i])))) (hpT x gl p f i) g := by
 refine recover_wp (nt := ntOf Tryd.prog 82) (rs := resOf Tryd.prog 82) (k0 := 3) 4 1 (by kernel_rfl) (by kernel_rfl) (by kernel_rfl) rfl (by kernel_rfl) (by decide) (by decide) (by decide) (by decide) (by decide) ?_
 refine vcQ [] (lkL [(1, [0, 1, 6]), (2, [0, 1, 2, 3]), (3, [0, 1, 2, 13]), (4, [0, 2])]) (lkL [(2, [(6, ROrc.val (Orc.obj (nth [int i64 f, int i64 i])))]), (5, [(1, ROrc.val (Orc.obj (nth [int i64 f, int i64 i])))])]) (fun Q => (fun (u1 : List AV) => (fun (u2 : AObj) => (fun (u3 : AObj) => (fun (u4 : List AV) => (true = true → 2 ≤ 2 ∧ (∀ (c : Nat), c < 2 → nth u1 c = over (nth u4) 0 2 (List.brecOn (motive := fun (x : List AV) => Nat → AV) u1 nth._f) c) ∧ (false = true → Q (AEx.pan (ifc 93 (agg 2 (nth u1)))) (St.mk [(0, ref 2 0), (2, ref 3 0)] [u3, u2, cells false 2 (nth u4), cells false 2 (nth u1)] g)) ∧ (false = false → 2 ≤ 2 ∧ 2 ≤ 2 ∧ (∀ (c : Nat), c < 2 → nth u1 c = over (nth u4) 0 2 (List.brecOn (motive := fun (x : List AV) => Nat → AV) u1 nth._f) c) ∧ Q AEx.normal (St.mk [] [u3, u2, cells false 2 (nth u1), cells false 2 (nth u1)] g))) ∧ (true = false → Q AEx.normal (St.mk [(0, ref 2 0), (1, ifc 93 (agg 2 (nth u1))), (6, AV.bool true)] [u3, u2, cells false 2 (nth u4)] g))) ([int i64 0, int i64 0])) (cells false 2 (nth [encPacks x, encR gl]))) (cells false 8 fun (a : Nat) => int i64 (p a))) ([int i64 f, int i64 i])) (fun _ => by kernel_rfl) ⟨fun _ => ⟨(by omega), ⟨(fun c hc => match c, hc with | 0, _ => (by kernel_rfl) | 1, _ => (by kernel_rfl) ), ⟨fun h => (nomatch h), fun _ => ⟨(by omega), ⟨(by omega), ⟨(fun c hc => match c, hc with | 0, _ => (by kernel_rfl) | 1, _ => (by kernel_rfl) ), ?_⟩⟩⟩⟩⟩⟩, fun h => (nomatch h)⟩
 refine (retQ_le (retQ_take' 3 _ _ rfl trivial (by omega) trivial ⟨(fun j hj => match j, hj with | 0, _ => trivial | 1, _ => trivial ), ⟨(fun j hj => match j, hj with | 0, _ => trivial | 1, _ => trivial | 2, _ => trivial | 3, _ => trivial | 4, _ => trivial | 5, _ => trivial | 6, _ => trivial | 7, _ => trivial ), ⟨(fun j hj => match j, hj with | 0, _ => trivial | 1, _ => trivial ), trivial⟩⟩⟩ (by kernel_rfl) rfl rfl) (Le.refl _))
theorem d_fault1n (R : Res) (x : Ix) (gl : KL Rng) (p : Nat → Int) (g : R.σ) : DoesD Tryd.prog R 82 [.ref 2 0] (hpT x gl p 0 0) g none (hpT x gl p 0 0) g := by
 refine recover_wp (nt := ntOf Tryd.prog 82) (rs := resOf Tryd.prog 82) (k0 := 3) 4 1 (by kernel_rfl) (by kernel_rfl) (by kernel_rfl) rfl (by kernel_rfl) (by decide) (by decide) (by decide) (by decide) (by decide) ?_
 refine vcQ [] (lkL [(1, [0, 1, 6]), (2, [0, 1, 2, 3]), (3, [0, 1, 2, 13]), (4, [0, 2])]) (lkL [(1, [(1, ROrc.own (AV.bool false) (hpT x gl p 0 0) g)]), (2, [(6, ROrc.val (Orc.obj (nth [int i64 0, int i64 0])))]), (5, [(1, ROrc.val (Orc.obj (nth [int i64 0, int i64 0])))])]) (fun Q => (fun (u1 : List AObj) => (fun (u2 : List AV) => OpOk Tryd.prog R (Oper.mk (some 6) (Op.binOp BinOp.neq 20 (Operand.tmp 5) (Operand.const Value.nilIface) 20) 4 "pack.go:149" #[Edge.mk 0 Ground.data] none) (evO [Row.mk (some 5) none AV.nili false (some []) []] [(1, AV.nili), (0, ref 2 0)] []) u1 g (AV.bool false) u1 g ∧ (false = true → 2 ≤ 2 ∧ (∀ (c : Nat), c < 2 → nth u2 c = over (nth u2) 0 2 (List.brecOn (motive := fun (x : List AV) => Nat → AV) u2 nth._f) c) ∧ (true = true → False) ∧ (true = false → 2 ≤ 2 ∧ 2 ≤ 2 ∧ (∀ (c : Nat), c < 2 → nth u2 c = over (nth u2) 0 2 (List.brecOn (motive := fun (x : List AV) => Nat → AV) u2 nth._f) c) ∧ Q AEx.normal (St.mk [] [cells false 2 (nth [encPacks x, encR gl]), cells false 8 fun (a : Nat) => int i64 (p a), cells false 2 (nth u2), cells false 2 (nth u2)] g))) ∧ (false = false → Q AEx.normal (St.mk [(0, ref 2 0), (1, AV.nili), (6, AV.bool false)] u1 g))) ([int i64 0, int i64 0])) ([cells false 2 (nth [encPacks x, encR gl]), cells false 8 fun (a : Nat) => int i64 (p a), cells false 2 (nth [int i64 0, int i64 0])])) (fun _ => by kernel_rfl) ⟨?_, ⟨fun h => (nomatch h), fun _ => ?_⟩⟩
 ·exact opOk_neq_nil (ms := #[]) rfl rfl rfl (by kernel_rfl)
 ·refine (retQ_le (retQ_same' _ _ rfl trivial rfl rfl rfl) (Le.refl _))
def faultOf (x : Ix) (gl : List Rng) (p : Nat → Int) : Int × Int := (lookR x gl p).getD (0, 0)
theorem c_fault (R : Res) (x : Ix) (gl : KL Rng) (p : Nat → Int) (hp : List AObj) (g : R.σ) (h8 : x.l.length ≤ 8) (h : inP x p) (hw : wfN x p) (hwb : wfB x p) (hl : smallN x p) (hlb : smallB' x p) (hg : gl.l.length < 1000000) (hgl : ∀ r ∈ gl.l, 0 ≤ r.pack ∧ r.pack < x.l.length) : Does Tryd.prog R 49 [encMkt x gl, encPlan p] hp g (.ret (.agg 2 (nth [.int .i64 (faultOf x gl.l p).1, .int .i64 (faultOf x gl.l p).2]))) hp g := by
 refine does_any' (fun R g => ?_) (by exact ⟨⟨⟨trivial, trivial⟩, trivial⟩, ⟨⟨⟨⟨⟨⟨⟨⟨⟨trivial, trivial⟩, trivial⟩, trivial⟩, trivial⟩, trivial⟩, trivial⟩, trivial⟩, trivial⟩, trivial⟩⟩) R hp g
 refine defer_wp (K := 82) (nt := ntOf Tryd.prog 49) (rs := resOf Tryd.prog 49) (k0 := 0) 5 [4] (by kernel_rfl) (by kernel_rfl) (by kernel_rfl) rfl (by kernel_rfl) (by kernel_rfl) (by decide) (by decide) ?_
 refine vcQ [] (lkL [(0, [2, 3, 4])]) (fun _ => []) (fun Q => Q AEx.normal (St.mk [(2, ref 0 0), (3, ref 1 0), (4, ref 2 0)] [cells false 2 (nth [encPacks x, encR gl]), cells false 8 fun (a : Nat) => int i64 (p a), cells false 2 (nth [int i64 0, int i64 0])] g)) (fun _ => by kernel_rfl) (?_)
 refine defA_wp 3 [.ref 2 0] rfl rfl rfl ?_
 cases e : lookR x gl.l p with
 | none =>
   have e' : (lookR x gl.l p).isNone = true := by rw [e]; rfl
   have hf : faultOf x gl.l p = (0, 0) := by unfold faultOf; rw [e]; rfl
   rw [hf]
   refine vcQ [] (lkL [(2, [4]), (3, [4])]) (lkL [(2, [(2, ROrc.pcall (tup 0 (nth [])))]), (3, [(1, ROrc.val (Orc.obj (nth [int i64 0, int i64 0])))])]) (fun Q => (fun (u1 : List AV) => 2 ≤ 2 ∧ 8 ≤ 8 ∧ (∀ (hp : List AObj) (g : R.σ), true = true ∧ Does Tryd.prog R 83 [encMkt x gl, encPlan p] hp g (ret (tup 0 (nth []))) hp g) ∧ 2 ≤ 2 ∧ (∀ (c : Nat), c < 2 → nth u1 c = over (nth u1) 0 2 (List.brecOn (motive := fun (x : List AV) => Nat → AV) u1 nth._f) c) ∧ Q AEx.ret (St.mk [(4, ref 2 0)] [cells false 2 (nth [encPacks x, encR gl]), cells false 8 fun (a : Nat) => int i64 (p a), cells false 2 (nth u1)] g)) ([int i64 0, int i64 0])) (fun _ => by kernel_rfl) ⟨(by omega), ⟨(by omega), ⟨(fun _ _ => ⟨rfl, (Go.Avm.Pack.c_look_t _ _ _ _ _ _ (by omega) (by omega) (by omega) (by omega) (by omega) (by omega) (by omega) (by omega) (by omega))⟩), ⟨(by omega), ⟨(fun c hc => match c, hc with | 0, _ => (by kernel_rfl) | 1, _ => (by kernel_rfl) ), ?_⟩⟩⟩⟩⟩
   refine ⟨_, _, d_fault1n R x gl p g, ?_⟩
   refine (retQ_le (retQ_drop (agg 2 (nth [int i64 0, int i64 0])) ([0 + (TyI.mk ((fun (x : TypeInfo) => x.desc) Tryd.prog.types[92]) Tryd.prog.types[93].size Tryd.prog.types[93].bytes (cellA (ofVal (Value.agg #[Value.int i64 0, Value.int i64 0]))) (isAggD ((fun (x : TypeInfo) => x.desc) Tryd.prog.types[92])) (flatTy Tryd.prog 93)).size ≤ 2]) (by kernel_rfl) (by exact ⟨(by decide), trivial⟩) ⟨⟨trivial, trivial⟩, trivial⟩ rfl) (Le.refl _))
 | some a =>
   obtain ⟨f, i⟩ := a
   have hf : faultOf x gl.l p = (f, i) := by unfold faultOf; rw [e]; rfl
   rw [hf]
   refine vcQ [] (lkL [(2, [4])]) (lkL [(2, [(2, ROrc.cpan (ifc 93 (agg 2 (nth [int i64 f, int i64 i]))) [cells false 2 (nth [encPacks x, encR gl]), cells false 8 fun (a : Nat) => int i64 (p a), cells false 2 (nth [int i64 0, int i64 0])] g)])]) (fun Q => (fun (u1 : List AObj) => 2 ≤ 2 ∧ 8 ≤ 8 ∧ (true = true ∧ Does Tryd.prog R 83 [encMkt x gl, encPlan p] u1 g (Oc.pan (ifc 93 (agg 2 (nth [int i64 f, int i64 i])))) u1 g) ∧ Q (AEx.pan (ifc 93 (agg 2 (nth [int i64 f, int i64 i])))) (St.mk [(4, ref 2 0)] u1 g)) ([cells false 2 (nth [encPacks x, encR gl]), cells false 8 fun (a : Nat) => int i64 (p a), cells false 2 (nth [int i64 0, int i64 0])])) (fun _ => by kernel_rfl) ⟨(by omega), ⟨(by omega), ⟨⟨rfl, (Go.Avm.Pack.c_look_p _ _ _ _ _ _ _ _ e (by omega) (by omega) (by omega) (by omega) (by omega) (by omega) (by omega) (by omega))⟩, ?_⟩⟩⟩
   refine ⟨_, _, d_fault1 R x gl p f i g, ?_⟩
   refine (retQ_le (retQ_drop (agg 2 (nth [int i64 f, int i64 i])) ([0 + (TyI.mk ((fun (x : TypeInfo) => x.desc) Tryd.prog.types[92]) Tryd.prog.types[93].size Tryd.prog.types[93].bytes (cellA (ofVal (Value.agg #[Value.int i64 0, Value.int i64 0]))) (isAggD ((fun (x : TypeInfo) => x.desc) Tryd.prog.types[92])) (flatTy Tryd.prog 93)).size ≤ 2]) (by kernel_rfl) (by exact ⟨(by decide), trivial⟩) ⟨⟨trivial, trivial⟩, trivial⟩ rfl) (Le.refl _))
end Go.Avm.Pack
