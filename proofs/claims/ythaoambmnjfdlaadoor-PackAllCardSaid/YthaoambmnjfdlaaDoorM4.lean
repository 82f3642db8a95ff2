/- Part 4 of the proof: lemmas. -/
import Derived.Test.YthaoambmnjfdlaaDoorM3
namespace Go.Avm.Pack
open Go Go.Avm Go.Proofs
open Go.IntKind (i64 u64)
open Go.Avm.AV (int bool any fz fp sl ow ref fn ifc val agg tup)
open Go.Avm.AObj (cells dead)
open Go.Avm.Oc (ret)
set_option maxRecDepth 4000

theorem planOf_set {pl : List Int} {m : Nat} {v : Int} (hm : m < pl.length) : updP (planOf pl m) m v = planOf (pl.set m v) (m + 1) := by
 funext j
 unfold updP planOf
 by_cases h : j = m
 ·subst h
  rw [if_pos rfl, if_pos (by omega), set_getD hm, if_pos rfl]
 ·rw [if_neg h]
  by_cases h2 : j < m
  ·rw [if_pos h2, if_pos (by omega), set_getD (by omega), if_neg h]
  ·rw [if_neg h2, if_neg (by omega)]
theorem planOf_zero (pl : List Int) : planOf pl 0 = fun _ => 0 := by
 funext j; unfold planOf; rw [if_neg (by omega)]
theorem metB_congr {p q : Nat → Int} {r : Rng} {m : Nat} (h : ∀ j, j < m → p j = q j) (h0 : 0 ≤ r.pack) (hm : r.pack < m) : metB p r = metB q r := by
 unfold metB; rw [h _ (by omega)]
theorem formed_need {x : Ix} (hx : formedB x = true) {i k w : Nat} (hi : i < x.l.length) (hk : k < (x.l.getD i default).l.length) : (w < ((x.l.getD i default).l.getD k default).needs.l.length → 0 ≤ (((x.l.getD i default).l.getD k default).needs.l.getD w default).pack) ∧ (w < ((x.l.getD i default).l.getD k default).bars.l.length → 0 ≤ (((x.l.getD i default).l.getD k default).bars.l.getD w default).pack) := by
 have h := formed_rel hx hi hk
 rw [relB_eq, Bool.and_eq_true] at h
 unfold rangesB at h
 rw [Bool.and_eq_true, Bool.and_eq_true] at h
 refine ⟨fun hw => ?_, fun hw => ?_⟩
 ·have := List.all_eq_true.1 h.1.2 _ (getD_mem _ default hw)
  unfold otherB at this
  rw [Bool.and_eq_true] at this
  exact (ranged_pack this.1).1
 ·have := List.all_eq_true.1 h.2.2 _ (getD_mem _ default hw)
  unfold otherB at this
  rw [Bool.and_eq_true] at this
  exact (ranged_pack this.1).1
theorem broken_congr {x : Ix} {gl : List Rng} (hx : formedB x = true) (hgl : ∀ r ∈ gl, 0 ≤ r.pack ∧ r.pack < x.l.length) {c : Clause} (hc : thereC x gl c) {p q : Nat → Int} {m : Nat} (h : ∀ j, j < m → p j = q j) : brokenB x gl c p m = brokenB x gl c q m := by
 have key : ∀ r : Rng, 0 ≤ r.pack → (decide (r.pack < (m : Int)) && !(metB p r)) = (decide (r.pack < (m : Int)) && !(metB q r)) ∧ (decide (r.pack < (m : Int)) && metB p r) = (decide (r.pack < (m : Int)) && metB q r) := fun r h0 => by
  by_cases hm : r.pack < (m : Int)
  ·rw [metB_congr h h0 hm]; exact ⟨rfl, rfl⟩
  ·rw [decide_eq_false hm]; exact ⟨rfl, rfl⟩
 unfold brokenB
 by_cases h1 : c.pack = -1
 ·rw [if_pos h1, if_pos h1]
  rcases hc with hc | hc
  ·exact (key _ (hgl _ (getD_mem _ default (by omega))).1).1
  ·omega
 ·rw [if_neg h1, if_neg h1]
  rcases hc with hc | ⟨c1, c2, c3, c4, c5, c6, c7⟩
  ·exact absurd hc.1 h1
  ·by_cases h2 : c.pack ≥ (m : Int)
   ·rw [if_pos (.inl h2), if_pos (.inl h2)]
   ·rw [h _ (by omega)]
    by_cases h3 : q c.pack.toNat ≠ c.rel
    ·rw [if_pos (.inr h3), if_pos (.inr h3)]
    ·have h3' : ¬ (c.pack ≥ (m : Int) ∨ q c.pack.toNat ≠ c.rel) := fun h => h.elim h2 h3
     rw [if_neg h3', if_neg h3']
     have hn := fun w => formed_need hx (i := c.pack.toNat) (k := c.rel.toNat) (w := w) (by omega) (by omega)
     cases hb : c.bar with
     | true =>
       simp only [if_true]
       exact (key _ ((hn c.which.toNat).2 (by have := c6 hb; omega))).2
     | false =>
       simp only [Bool.false_eq_true, if_false]
       exact (key _ ((hn c.which.toNat).1 (by have := c7 hb; omega))).1
theorem any_congr' {α : Type} {p q : α → Bool} : ∀ {l : List α}, (∀ a ∈ l, p a = q a) → l.any p = l.any q
 | [], _ => rfl
 | a :: l, h => by
   rw [List.any_cons, List.any_cons, h a List.mem_cons_self, any_congr' (fun b hb => h b (List.mem_cons_of_mem _ hb))]
theorem brk_plan {x : Ix} {gl : List Rng} (hx : formedB x = true) (hgl : ∀ r ∈ gl, 0 ≤ r.pack ∧ r.pack < x.l.length) {l : List Clause} (hl : ∀ c ∈ l, thereC x gl c) {pl : List Int} {m n : Nat} (hm : m ≤ n) : brkB x gl l (planOf pl m) m = brkB x gl l (planOf pl n) m :=
 any_congr' (fun c hc => broken_congr hx hgl (hl c hc) (fun j hj => by unfold planOf; rw [if_pos hj, if_pos (by omega)]))
theorem planL_planOf {pl : List Int} {n : Nat} (h : pl.length = n) : planL (planOf pl n) n = pl := by
 refine List.ext_getElem (by rw [planL_len, h]) (fun i h1 h2 => ?_)
 have e1 := planL_getD (p := planOf pl n) (n := n) (i := i) (by omega)
 rw [planOf_lt (by omega)] at e1
 rw [List.getD_eq_getElem?_getD, List.getD_eq_getElem?_getD, List.getElem?_eq_getElem h1, List.getElem?_eq_getElem h2] at e1
 exact e1
theorem look_ne {x : Ix} {gl : List Rng} {p : Nat → Int} {f i : Int} (h : lookR x gl p = some (f, i)) : f ≠ 0 := by
 unfold lookR at h
 split at h
 ·cases h; decide
 ·split at h
  ·cases h; decide
  ·split at h
   ·cases h; decide
   ·split at h
    ·cases h; decide
    ·cases h
theorem fine_iff (x : Ix) (gl : List Rng) (p : Nat → Int) : fineB x gl p = ((faultOf x gl p).1 == 0) := by
 unfold fineB faultOf
 cases h : lookR x gl p with
 | none => rfl
 | some y =>
   obtain ⟨f, i⟩ := y
   have := look_ne h
   show (f == 0 && _) = (f == 0)
   rw [beq_eq_false_iff_ne.2 this]; rfl
end Go.Avm.Pack
namespace Go.Avm.Pack
open Go Go.Avm Go.Proofs
open Go.IntKind (i64 u64)
open Go.Avm.AV (int bool any fz fp sl ow ref fn ifc val agg tup)
open Go.Avm.AObj (cells dead)
open Go.Avm.Oc (ret)
set_option maxRecDepth 4000

theorem first_walk {β : Type} (x : Ix) (gl : List Rng) (l : List Clause) (hx : formedB x = true) (hgl : ∀ r ∈ gl, 0 ≤ r.pack ∧ r.pack < x.l.length) (hl : ∀ c ∈ l, thereC x gl c) (right : Bool) (e : List Int → β) (fd : β → (Nat → Int) → Bool × β)
  (hfd : ∀ pl, pl.length = x.l.length → fd (e []) (planOf pl x.l.length) = if right && !((faultOf x gl (planOf pl x.l.length)).1 == 0) then (true, e []) else (false, e pl)) :
  ∀ (k m : Nat), m + k = x.l.length → ∀ (pl : List Int) (f0 : Int), pl.length = x.l.length →
    eachR x gl l (fun b _ _ => (true, b)) fd k (e []) (planOf pl m) = (Nat.beq (fromR x gl l right [] k ([], f0) pl).1.length 0, e (fromR x gl l right [] k ([], f0) pl).1)
 | 0, m, hm, pl, f0, hpl => by
   have hm : m = x.l.length := by omega
   subst hm
   have h1 := (formed_le hx).1
   unfold eachR fromR
   cases hb : brkB x gl l (planOf pl x.l.length) x.l.length with
   | true => rfl
   | false =>
     simp only [Bool.false_eq_true, if_false, if_true]
     rw [hfd pl hpl]
     cases hr : (right && !((faultOf x gl (planOf pl x.l.length)).1 == 0)) with
     | true => rfl
     | false =>
       have hne : Nat.beq pl.length 0 = false := by
        cases h : pl.length with
        | zero => omega
        | succ n => rfl
       show (false, e pl) = (Nat.beq pl.length 0, e pl)
       rw [hne]
 | k + 1, m, hm, pl, f0, hpl => by
   have em : x.l.length - (k + 1) = m := by omega
   obtain ⟨N, hN⟩ : ∃ N, (x.l.getD m default).l.length = N := ⟨_, rfl⟩
   cases hb : brkB x gl l (planOf pl m) m with
   | true =>
     have hb2 := hb
     rw [brk_plan hx hgl hl (show m ≤ x.l.length by omega)] at hb2
     unfold eachR fromR
     rw [em, hb, hb2]
     rfl
   | false =>
     have hb2 := hb
     rw [brk_plan hx hgl hl (show m ≤ x.l.length by omega)] at hb2
     rw [fromR_succ em hN hb2]
     obtain ⟨S, hS⟩ : ∃ S, runR x gl l right [] k m N pl ([], f0) = S := ⟨_, rfl⟩
     rw [hS]
     obtain ⟨f, hf⟩ : ∃ f : β → Int → Bool × β, f = fun b v => eachR x gl l (fun b _ _ => (true, b)) fd k b (updP (planOf pl m) m v) := ⟨_, rfl⟩
     have e1 : eachR x gl l (fun b _ _ => (true, b)) fd (k + 1) (e []) (planOf pl m) = goN f (itemC N) (N + 1) (e []) := by
      unfold eachR
      rw [em, hb, hN, hf]
      rfl
     rw [e1]
     have hstep : ∀ j f1, f (e []) (itemC N j) = (Nat.beq (fromR x gl l right [] k ([], f1) (pl.set m (itemC N j))).1.length 0, e (fromR x gl l right [] k ([], f1) (pl.set m (itemC N j))).1) := fun j f1 => by
      rw [hf]
      show eachR x gl l _ fd k (e []) (updP (planOf pl m) m (itemC N j)) = _
      rw [planOf_set (by omega)]
      exact first_walk x gl l hx hgl hl right e fd hfd k (m + 1) (by omega) _ f1 (by simpa using hpl)
     have hgt : ∀ s : List Int × Int, s.1 = [] → grdB [] s = true := fun s h => by unfold grdB; rw [h]; rfl
     have hgf : ∀ s : List Int × Int, s.1 ≠ [] → grdB [] s = false := fun s h => by
      unfold grdB
      cases hs : s.1 with
      | nil => exact absurd hs h
      | cons a r => rfl
     have hsucc : ∀ j, S (j + 1) = if grdB [] (S j) then fromR x gl l right [] k (S j) (pl.set m (itemC N j)) else S j := fun j => by
      rw [← hS, runR_succ]; rfl
     have main : ∀ j, ((S j).1 = [] ∧ bK f (itemC N) (e []) j = e [] ∧ ∀ i, i < j → cK f (itemC N) (e []) i = true) ∨
       (∃ i, i < j ∧ (∀ i', i' < i → cK f (itemC N) (e []) i' = true) ∧ cK f (itemC N) (e []) i = false ∧ bK f (itemC N) (e []) (i + 1) = e (S j).1 ∧ (S j).1 ≠ []) := by
      intro j
      induction j with
      | zero => exact .inl ⟨by rw [← hS]; rfl, rfl, fun i hi => absurd hi (by omega)⟩
      | succ j ih =>
        rcases ih with ⟨h1, h2, h3⟩ | ⟨i, h1, h2, h3, h4, h5⟩
        ·have es : S j = ([], (S j).2) := by rw [← h1]
         have hS1 : S (j + 1) = fromR x gl l right [] k ([], (S j).2) (pl.set m (itemC N j)) := by
          rw [hsucc, hgt _ h1, if_pos rfl]
          rw [← es]
         have hc : cK f (itemC N) (e []) j = Nat.beq (S (j + 1)).1.length 0 := by
          unfold cK; rw [h2, hstep j (S j).2, ← hS1]
         have hbk : bK f (itemC N) (e []) (j + 1) = e (S (j + 1)).1 := by
          show (f (bK f (itemC N) (e []) j) (itemC N j)).2 = _
          rw [h2, hstep j (S j).2, ← hS1]
         by_cases hn : (S (j + 1)).1 = []
         ·refine .inl ⟨hn, by rw [hbk, hn], fun i hi => ?_⟩
          rcases Nat.lt_or_ge i j with h | h
          ·exact h3 i h
          ·have : i = j := by omega
           subst this
           rw [hc, hn]; rfl
         ·refine .inr ⟨j, by omega, h3, ?_, hbk, hn⟩
          rw [hc]
          cases hs : (S (j + 1)).1 with
          | nil => exact absurd hs hn
          | cons a r => rfl
        ·have hS1 : S (j + 1) = S j := by rw [hsucc, hgf _ h5]; rfl
         exact .inr ⟨i, by omega, h2, h3, by rw [hS1]; exact h4, by rw [hS1]; exact h5⟩
     rcases main (N + 1) with ⟨h1, h2, h3⟩ | ⟨i, h1, h2, h3, h4, h5⟩
     ·rw [goN_all h3, h1, h2]; rfl
     ·rw [goN_at h2 h1 h3, h4]
      cases hs : (S (N + 1)).1 with
      | nil => exact absurd hs h5
      | cons a r => rfl
theorem planL_none (x : Ix) : (planL (fun _ => -1) x.l.length).length = x.l.length := planL_len _ _
theorem best_eq {x : Ix} {gl : List Rng} (hx : formedB x = true) (hgl : ∀ r ∈ gl, 0 ≤ r.pack ∧ r.pack < x.l.length) : bestP x gl = (searchR x gl (clausesOf x gl) true []).1 := by
 have h := first_walk x gl (clausesOf x gl) hx hgl (fun c hc => there_all hc) true (fun l => l) (fun b p => (Nat.beq (bestO x gl b p).length 0, bestO x gl b p)) (fun pl hpl => ?_) x.l.length 0 (by omega) (planL (fun _ => -1) x.l.length) 0 (planL_none x)
 ·rw [planOf_zero] at h
  unfold bestP searchR
  rw [h]
 ·show (Nat.beq (bestO x gl [] (planOf pl x.l.length)).length 0, bestO x gl [] (planOf pl x.l.length)) = _
  unfold bestO
  rw [fine_iff, planL_planOf hpl]
  cases hf : ((faultOf x gl (planOf pl x.l.length)).1 == 0) with
  | true =>
    have h1 := (formed_le hx).1
    have hne : Nat.beq pl.length 0 = false := by
     cases h : pl.length with
     | zero => omega
     | succ n => rfl
    show (Nat.beq pl.length 0, pl) = (false, pl)
    rw [hne]
  | false => rfl
end Go.Avm.Pack
namespace Go.Avm.Pack
open Go Go.Avm Go.Proofs
open Go.IntKind (i64 u64)
open Go.Avm.AV (int bool any fz fp sl ow ref fn ifc val agg tup)
open Go.Avm.AObj (cells dead)
open Go.Avm.Oc (ret)
set_option maxRecDepth 4000

end Go.Avm.Pack
namespace Go.Avm.Pack
open Go Go.Avm Go.Proofs
open Go.IntKind (i64 u64)
open Go.Avm.AV (int bool any fz fp sl ow ref fn ifc val agg tup)
open Go.Avm.AObj (cells dead)
open Go.Avm.Oc (ret)
set_option maxRecDepth 4000
theorem c_span (R : Res) (a b c : Int) (hp : List AObj) (g : R.σ) : Does Tryd.prog R 14 [.int .i64 a, .int .i64 b, .int .i64 c] hp g (.ret (encRng ⟨a, b, c⟩)) hp g := by
 refine does_any' (fun R g => ?_) (by exact ⟨trivial, ⟨trivial, ⟨trivial, trivial⟩⟩⟩) R hp g
 refine spec_of_wp (nt := 11) (rs := [.cell 6 37]) (k0 := 0) (by kernel_rfl) (by kernel_rfl) (by kernel_rfl) rfl ?_
 refine vcQ [] (lkL [(0, [0, 1, 2, 6]), (1, [6])]) (lkL [(1, [(4, ROrc.val (Orc.obj (nth [int i64 a, int i64 b, int i64 c])))])]) (fun Q => (fun (u1 : List AV) => 3 ≤ 3 ∧ (∀ (c : Nat), c < 3 → nth u1 c = over (nth [int i64 0, int i64 0, int i64 0]) 0 3 (List.brecOn (motive := fun (x : List AV) => Nat → AV) u1 nth._f) c) ∧ Q AEx.ret (St.mk [(6, ref 0 0)] [cells false 3 (nth u1)] g)) ([int i64 a, int i64 b, int i64 c])) (fun _ => by kernel_rfl) ⟨(by omega), ⟨(fun c hc => match c, hc with | 0, _ => (by kernel_rfl) | 1, _ => (by kernel_rfl) | 2, _ => (by kernel_rfl) ), ?_⟩⟩
 refine (retQ_le (retQ_drop (agg 3 (nth [int i64 a, int i64 b, int i64 c])) ([0 + (TyI.mk ((fun (x : TypeInfo) => x.desc) Tryd.prog.types[36]) Tryd.prog.types[37].size Tryd.prog.types[37].bytes (cellA (ofVal (Value.agg #[Value.int i64 0, Value.int i64 0, Value.int i64 0]))) (isAggD ((fun (x : TypeInfo) => x.desc) Tryd.prog.types[36])) (flatTy Tryd.prog 37)).size ≤ 3]) (by kernel_rfl) (by exact ⟨(by decide), trivial⟩) ⟨⟨⟨trivial, trivial⟩, trivial⟩, trivial⟩ rfl) (Le.of_eq (by kernel_rfl)))
theorem c_goals (R : Res) (l : KL Rng) (hp : List AObj) (g : R.σ) : Does Tryd.prog R 13 [encR l] hp g (.ret (encR l)) hp g := by
 refine does_any' (fun R g => ?_) (by exact ⟨trivial, trivial⟩) R hp g
 refine spec_of_wp (nt := 4) (rs := [.tmp 2]) (k0 := 0) (by kernel_rfl) (by kernel_rfl) (by kernel_rfl) rfl ?_
 refine vcQ [] (lkL [(0, [0]), (1, [2])]) (fun _ => []) (fun Q => Q AEx.ret (St.mk [(2, encR l)] [] g)) (fun _ => by kernel_rfl) (?_)
 refine (retQ_le (retQ_same' _ _ rfl trivial rfl rfl rfl) (Le.of_eq (by kernel_rfl)))
theorem c_mkrel (R : Res) (l : KL Rng) (hp : List AObj) (g : R.σ) : Does Tryd.prog R 50 [encR l] hp g (.ret (encRel ⟨l, ⟨[], .nil⟩⟩)) hp g := by
 refine does_any' (fun R g => ?_) (by exact ⟨trivial, trivial⟩) R hp g
 refine spec_of_wp (nt := 5) (rs := [.cell 2 45]) (k0 := 0) (by kernel_rfl) (by kernel_rfl) (by kernel_rfl) rfl ?_
 refine vcQ [] (lkL [(0, [0, 2]), (1, [2])]) (lkL [(1, [(2, ROrc.val (Orc.obj (nth [encR l, fz Fz.nil 0 0 fun _ _ => any])))])]) (fun Q => (fun (u1 : AV) => 2 ≤ 2 ∧ (∀ (c : Nat), c < 2 → nth [encR l, u1] c = over (nth [u1, u1]) 0 2 (List.brecOn (motive := fun (x : List AV) => Nat → AV) [encR l, u1] nth._f) c) ∧ Q AEx.ret (St.mk [(2, ref 0 0)] [cells false 2 (nth [encR l, u1])] g)) (fz Fz.nil 0 0 fun _ _ => any)) (fun _ => by kernel_rfl) ⟨(by omega), ⟨(fun c hc => match c, hc with | 0, _ => (by kernel_rfl) | 1, _ => (by kernel_rfl) ), ?_⟩⟩
 refine (retQ_le (retQ_drop (agg 2 (nth [fz l.2 3 (l.l.length) fun (i : Nat) => rngC (l.l.getD i default), fz Fz.nil 0 0 fun _ _ => any])) ([0 + (TyI.mk ((fun (x : TypeInfo) => x.desc) Tryd.prog.types[44]) Tryd.prog.types[45].size Tryd.prog.types[45].bytes (cellA (ofVal (Value.agg #[Value.slice none 0 0, Value.slice none 0 0]))) (isAggD ((fun (x : TypeInfo) => x.desc) Tryd.prog.types[44])) (flatTy Tryd.prog 45)).size ≤ 2]) (by kernel_rfl) (by exact ⟨(by decide), trivial⟩) ⟨⟨trivial, trivial⟩, trivial⟩ rfl) (Le.agg (fun j hj => match j, hj with | 0, _ => (Le.of_eq (by kernel_rfl)) | 1, _ => Le.nil )))
theorem c_mkbar (R : Res) (l : KL Rng) (hp : List AObj) (g : R.σ) : Does Tryd.prog R 51 [encR l] hp g (.ret (encRel ⟨⟨[], .nil⟩, l⟩)) hp g := by
 refine does_any' (fun R g => ?_) (by exact ⟨trivial, trivial⟩) R hp g
 refine spec_of_wp (nt := 5) (rs := [.cell 2 45]) (k0 := 0) (by kernel_rfl) (by kernel_rfl) (by kernel_rfl) rfl ?_
 refine vcQ [] (lkL [(0, [0, 2]), (1, [2])]) (lkL [(1, [(2, ROrc.val (Orc.obj (nth [fz Fz.nil 0 0 fun _ _ => any, encR l])))])]) (fun Q => (fun (u1 : AV) => 2 ≤ 2 ∧ (∀ (c : Nat), c < 2 → nth [u1, encR l] c = over (nth [u1, u1]) 0 2 (List.brecOn (motive := fun (x : List AV) => Nat → AV) [u1, encR l] nth._f) c) ∧ Q AEx.ret (St.mk [(2, ref 0 0)] [cells false 2 (nth [u1, encR l])] g)) (fz Fz.nil 0 0 fun _ _ => any)) (fun _ => by kernel_rfl) ⟨(by omega), ⟨(fun c hc => match c, hc with | 0, _ => (by kernel_rfl) | 1, _ => (by kernel_rfl) ), ?_⟩⟩
 refine (retQ_le (retQ_drop (agg 2 (nth [fz Fz.nil 0 0 fun _ _ => any, fz l.2 3 (l.l.length) fun (i : Nat) => rngC (l.l.getD i default)])) ([0 + (TyI.mk ((fun (x : TypeInfo) => x.desc) Tryd.prog.types[44]) Tryd.prog.types[45].size Tryd.prog.types[45].bytes (cellA (ofVal (Value.agg #[Value.slice none 0 0, Value.slice none 0 0]))) (isAggD ((fun (x : TypeInfo) => x.desc) Tryd.prog.types[44])) (flatTy Tryd.prog 45)).size ≤ 2]) (by kernel_rfl) (by exact ⟨(by decide), trivial⟩) ⟨⟨trivial, trivial⟩, trivial⟩ rfl) (Le.agg (fun j hj => match j, hj with | 0, _ => Le.nil | 1, _ => (Le.of_eq (by kernel_rfl)) )))
def aN : KL Rng := ⟨[], .nil⟩
def a1 : KL Rng := ⟨[⟨1, 0, 1⟩], .exa⟩
def a2 : KL Rng := ⟨[⟨1, 2, 2⟩, ⟨2, 0, 1⟩], .exa⟩
def a3 : KL Rng := ⟨[⟨2, 0, 0⟩], .exa⟩
def a4 : KL Rng := ⟨[⟨2, 1, 1⟩], .exa⟩
def a5 : KL Rng := ⟨[⟨0, 2, 2⟩], .exa⟩
def aP0 : KL Rel := ⟨[⟨aN, aN⟩, ⟨a1, aN⟩, ⟨a2, aN⟩], .exa⟩
def aP1 : KL Rel := ⟨[⟨aN, aN⟩, ⟨a3, aN⟩, ⟨a4, aN⟩], .exa⟩
def aP2 : KL Rel := ⟨[⟨aN, aN⟩, ⟨aN, a5⟩], .exa⟩
def aIx : Ix := ⟨[aP0, aP1, aP2], .exa⟩
theorem c_A (R : Res) (hp : List AObj) (g : R.σ) : Does Tryd.prog R 16 [] hp g (.ret (encIx aIx)) hp g := by
 refine does_any' (fun R g => ?_) (by exact trivial) R hp g
 obtain ⟨v1, e1⟩ : ∃ v, v = a1 := ⟨_, rfl⟩
 obtain ⟨v2, e2⟩ : ∃ v, v = a2 := ⟨_, rfl⟩
 obtain ⟨v3, e3⟩ : ∃ v, v = a3 := ⟨_, rfl⟩
 obtain ⟨v4, e4⟩ : ∃ v, v = a4 := ⟨_, rfl⟩
 obtain ⟨v5, e5⟩ : ∃ v, v = a5 := ⟨_, rfl⟩
 obtain ⟨w0, f0⟩ : ∃ v, v = aP0 := ⟨_, rfl⟩
 obtain ⟨w1, f1⟩ : ∃ v, v = aP1 := ⟨_, rfl⟩
 obtain ⟨w2, f2⟩ : ∃ v, v = aP2 := ⟨_, rfl⟩
 obtain ⟨z, hz⟩ : ∃ v, v = aIx := ⟨_, rfl⟩
 rw [← hz]
 refine spec_of_wp (nt := 25) (rs := [.cell 0 24]) (k0 := 0) (by kernel_rfl) (by kernel_rfl) (by kernel_rfl) rfl ?_
 refine vcQ [] (lkL [(0, [0]), (1, [0])]) (lkL [(1, [(0, ROrc.pcall (encRel (Rel.mk (KL.mk [] Fz.nil) (KL.mk [] Fz.nil)))), (1, ROrc.pcall (encRng (Rng.mk 1 0 1))), (2, ROrc.kop (encR v1)), (3, ROrc.pcall (encRel (Rel.mk v1 (KL.mk [] Fz.nil)))), (4, ROrc.pcall (encRng (Rng.mk 1 2 2))), (5, ROrc.pcall (encRng (Rng.mk 2 0 1))), (6, ROrc.kop (encR v2)), (7, ROrc.pcall (encRel (Rel.mk v2 (KL.mk [] Fz.nil)))), (8, ROrc.kop (encRels w0)), (9, ROrc.pcall (encRel (Rel.mk (KL.mk [] Fz.nil) (KL.mk [] Fz.nil)))), (10, ROrc.pcall (encRng (Rng.mk 2 0 0))), (11, ROrc.kop (encR v3)), (12, ROrc.pcall (encRel (Rel.mk v3 (KL.mk [] Fz.nil)))), (13, ROrc.pcall (encRng (Rng.mk 2 1 1))), (14, ROrc.kop (encR v4)), (15, ROrc.pcall (encRel (Rel.mk v4 (KL.mk [] Fz.nil)))), (16, ROrc.kop (encRels w1)), (17, ROrc.pcall (encRel (Rel.mk (KL.mk [] Fz.nil) (KL.mk [] Fz.nil)))), (18, ROrc.pcall (encRng (Rng.mk 0 2 2))), (19, ROrc.kop (encR v5)), (20, ROrc.pcall (encRel (Rel.mk (KL.mk [] Fz.nil) v5))), (21, ROrc.kop (encRels w2)), (22, ROrc.kop (encPacks z)), (24, ROrc.val (Orc.obj (nth [encPacks z])))])]) (fun Q => (fun (u1 : List Row) => (fun (u2 : List Row) => (fun (u3 : List AObj) => (fun (u4 : AV) => (fun (u5 : AV) => (fun (u6 : List Row) => (fun (u7 : List Row) => (fun (u8 : List Row) => (fun (u9 : List AV) => (fun (u10 : List (Nat × AV)) => (fun (u11 : AV) => (fun (u12 : AV) => (fun (u13 : AV) => (∀ (hp : List AObj) (g : R.σ), true = true ∧ Does Tryd.prog R 50 u9 hp g (ret (agg 2 (nth [u5, u5]))) hp g) ∧ (∀ (hp : List AObj) (g : R.σ), true = true ∧ Does Tryd.prog R 14 [u11, u13, u11] hp g (ret (agg 3 (nth [u11, u13, u11]))) hp g) ∧ OpOk Tryd.prog R (Oper.mk (some 3) (Op.buildSlice 34 1 #[(0, Operand.tmp 2)]) 34 "law.go:22" #[Edge.mk 1 Ground.data] none) (evO [Row.mk (some 2) none (agg 3 (nth [u11, u13, u11])) false (some []) [], Row.mk (some 1) none (agg 2 (nth [u4, u4])) false (some []) []] u10 []) u3 g (encR v1) u3 g ∧ (∀ (hp : List AObj) (g : R.σ), true = true ∧ Does Tryd.prog R 50 [encR v1] hp g (ret (agg 2 (nth [encR v1, u5]))) hp g) ∧ (∀ (hp : List AObj) (g : R.σ), true = true ∧ Does Tryd.prog R 14 [u11, u12, u12] hp g (ret (agg 3 (nth [u11, u12, u12]))) hp g) ∧ (∀ (hp : List AObj) (g : R.σ), true = true ∧ Does Tryd.prog R 14 [u12, u13, u11] hp g (ret (agg 3 (nth [u12, u13, u11]))) hp g) ∧ OpOk Tryd.prog R (Oper.mk (some 7) (Op.buildSlice 34 2 #[(0, Operand.tmp 5), (1, Operand.tmp 6)]) 34 "law.go:22" #[Edge.mk 4 Ground.data, Edge.mk 5 Ground.data] none) (evO u6 u10 []) u3 g (encR v2) u3 g ∧ (∀ (hp : List AObj) (g : R.σ), true = true ∧ Does Tryd.prog R 50 [encR v2] hp g (ret (agg 2 (nth [encR v2, u5]))) hp g) ∧ OpOk Tryd.prog R (Oper.mk (some 9) (Op.buildSlice 46 3 #[(0, Operand.tmp 1), (1, Operand.tmp 4), (2, Operand.tmp 8)]) 46 "law.go:22" #[Edge.mk 0 Ground.data, Edge.mk 3 Ground.data, Edge.mk 7 Ground.data] none) (evO (Row.mk (some 8) none (agg 2 (nth [encR v2, u4])) false (some []) [] :: Row.mk (some 7) none (encR v2) true (some []) [] :: u6) u10 []) u3 g (encRels w0) u3 g ∧ (∀ (hp : List AObj) (g : R.σ), true = true ∧ Does Tryd.prog R 50 u9 hp g (ret (agg 2 (nth [u5, u5]))) hp g) ∧ (∀ (hp : List AObj) (g : R.σ), true = true ∧ Does Tryd.prog R 14 [u12, u13, u13] hp g (ret (agg 3 (nth [u12, u13, u13]))) hp g) ∧ OpOk Tryd.prog R (Oper.mk (some 12) (Op.buildSlice 34 1 #[(0, Operand.tmp 11)]) 34 "law.go:22" #[Edge.mk 10 Ground.data] none) (evO u1 u10 []) u3 g (encR v3) u3 g ∧ (∀ (hp : List AObj) (g : R.σ), true = true ∧ Does Tryd.prog R 50 [encR v3] hp g (ret (agg 2 (nth [encR v3, u5]))) hp g) ∧ (∀ (hp : List AObj) (g : R.σ), true = true ∧ Does Tryd.prog R 14 [u12, u11, u11] hp g (ret (agg 3 (nth [u12, u11, u11]))) hp g) ∧ OpOk Tryd.prog R (Oper.mk (some 15) (Op.buildSlice 34 1 #[(0, Operand.tmp 14)]) 34 "law.go:22" #[Edge.mk 13 Ground.data] none) (evO u7 u10 []) u3 g (encR v4) u3 g ∧ (∀ (hp : List AObj) (g : R.σ), true = true ∧ Does Tryd.prog R 50 [encR v4] hp g (ret (agg 2 (nth [encR v4, u5]))) hp g) ∧ OpOk Tryd.prog R (Oper.mk (some 17) (Op.buildSlice 46 3 #[(0, Operand.tmp 10), (1, Operand.tmp 13), (2, Operand.tmp 16)]) 46 "law.go:22" #[Edge.mk 9 Ground.data, Edge.mk 12 Ground.data, Edge.mk 15 Ground.data] none) (evO (Row.mk (some 16) none (agg 2 (nth [encR v4, u4])) false (some []) [] :: Row.mk (some 15) none (encR v4) true (some []) [] :: u7) u10 []) u3 g (encRels w1) u3 g ∧ (∀ (hp : List AObj) (g : R.σ), true = true ∧ Does Tryd.prog R 50 u9 hp g (ret (agg 2 (nth [u5, u5]))) hp g) ∧ (∀ (hp : List AObj) (g : R.σ), true = true ∧ Does Tryd.prog R 14 [u13, u12, u12] hp g (ret (agg 3 (nth [u13, u12, u12]))) hp g) ∧ OpOk Tryd.prog R (Oper.mk (some 20) (Op.buildSlice 34 1 #[(0, Operand.tmp 19)]) 34 "law.go:22" #[Edge.mk 18 Ground.data] none) (evO u2 u10 []) u3 g (encR v5) u3 g ∧ (∀ (hp : List AObj) (g : R.σ), true = true ∧ Does Tryd.prog R 51 [encR v5] hp g (ret (agg 2 (nth [u5, encR v5]))) hp g) ∧ OpOk Tryd.prog R (Oper.mk (some 22) (Op.buildSlice 46 2 #[(0, Operand.tmp 18), (1, Operand.tmp 21)]) 46 "law.go:22" #[Edge.mk 17 Ground.data, Edge.mk 20 Ground.data] none) (evO u8 u10 []) u3 g (encRels w2) u3 g ∧ OpOk Tryd.prog R (Oper.mk (some 23) (Op.buildSlice 22 3 #[(0, Operand.tmp 9), (1, Operand.tmp 17), (2, Operand.tmp 22)]) 22 "law.go:22" #[Edge.mk 8 Ground.data, Edge.mk 16 Ground.data, Edge.mk 21 Ground.data] none) (evO (Row.mk (some 22) none (encRels w2) true (some []) [] :: u8) u10 []) u3 g (encPacks z) u3 g ∧ 1 ≤ 1 ∧ (∀ (c : Nat), c < 1 → nth [encPacks z] c = over (nth u9) 0 1 (List.brecOn (motive := fun (x : List AV) => Nat → AV) [encPacks z] nth._f) c) ∧ Q AEx.ret (St.mk u10 [cells false 1 (nth [encPacks z])] g)) (int i64 0)) (int i64 2)) (int i64 1)) ([(0, ref 0 0)])) ([fz Fz.nil 0 0 fun _ _ => any])) (Row.mk (some 21) none (agg 2 (nth [u4, encR v5])) false (some []) [] :: Row.mk (some 20) none (encR v5) true (some []) [] :: u2)) (Row.mk (some 14) none (agg 3 (nth [int i64 2, int i64 1, int i64 1])) false (some []) [] :: Row.mk (some 13) none (agg 2 (nth [encR v3, u4])) false (some []) [] :: Row.mk (some 12) none (encR v3) true (some []) [] :: u1)) ([Row.mk (some 6) none (agg 3 (nth [int i64 2, int i64 0, int i64 1])) false (some []) [], Row.mk (some 5) none (agg 3 (nth [int i64 1, int i64 2, int i64 2])) false (some []) [], Row.mk (some 4) none (agg 2 (nth [encR v1, u4])) false (some []) [], Row.mk (some 3) none (encR v1) true (some []) [], Row.mk (some 2) none (agg 3 (nth [int i64 1, int i64 0, int i64 1])) false (some []) [], Row.mk (some 1) none (agg 2 (nth [u4, u4])) false (some []) []])) (fz Fz.nil 3 0 fun (i : Nat) => rngC ((KL.mk [] Fz.nil).l.getD i default))) (fz Fz.nil 3 0 fun (i : Nat) => rngC (List.getD [] i default))) ([cells false 1 (nth [fz Fz.nil 0 0 fun _ _ => any])])) (Row.mk (some 19) none (agg 3 (nth [int i64 0, int i64 2, int i64 2])) false (some []) [] :: Row.mk (some 18) none (agg 2 (nth [fz Fz.nil 3 0 fun (i : Nat) => rngC (List.getD [] i default), fz Fz.nil 3 0 fun (i : Nat) => rngC (List.getD [] i default)])) false (some []) [] :: Row.mk (some 17) none (encRels w1) true (some []) [] :: Row.mk (some 16) none (agg 2 (nth [encR v4, fz Fz.nil 3 0 fun (i : Nat) => rngC (List.getD [] i default)])) false (some []) [] :: Row.mk (some 15) none (encR v4) true (some []) [] :: Row.mk (some 14) none (agg 3 (nth [int i64 2, int i64 1, int i64 1])) false (some []) [] :: Row.mk (some 13) none (agg 2 (nth [encR v3, fz Fz.nil 3 0 fun (i : Nat) => rngC (List.getD [] i default)])) false (some []) [] :: Row.mk (some 12) none (encR v3) true (some []) [] :: u1)) ([Row.mk (some 11) none (agg 3 (nth [int i64 2, int i64 0, int i64 0])) false (some []) [], Row.mk (some 10) none (agg 2 (nth [fz Fz.nil 3 0 fun (i : Nat) => rngC (List.getD [] i default), fz Fz.nil 3 0 fun (i : Nat) => rngC (List.getD [] i default)])) false (some []) [], Row.mk (some 9) none (encRels w0) true (some []) [], Row.mk (some 8) none (agg 2 (nth [encR v2, fz Fz.nil 3 0 fun (i : Nat) => rngC (List.getD [] i default)])) false (some []) [], Row.mk (some 7) none (encR v2) true (some []) [], Row.mk (some 6) none (agg 3 (nth [int i64 2, int i64 0, int i64 1])) false (some []) [], Row.mk (some 5) none (agg 3 (nth [int i64 1, int i64 2, int i64 2])) false (some []) [], Row.mk (some 4) none (agg 2 (nth [encR v1, fz Fz.nil 3 0 fun (i : Nat) => rngC (List.getD [] i default)])) false (some []) [], Row.mk (some 3) none (encR v1) true (some []) [], Row.mk (some 2) none (agg 3 (nth [int i64 1, int i64 0, int i64 1])) false (some []) [], Row.mk (some 1) none (agg 2 (nth [fz Fz.nil 3 0 fun (i : Nat) => rngC (List.getD [] i default), fz Fz.nil 3 0 fun (i : Nat) => rngC (List.getD [] i default)])) false (some []) []])) (fun _ => by kernel_rfl) ⟨(fun _ _ => ⟨rfl, (does_conv (args' := [encR (KL.mk [] Fz.nil)]) (Go.Avm.Pack.c_mkrel _ (KL.mk [] Fz.nil) _ _) (by exact ⟨Le.nil, trivial⟩) (Le.refl _))⟩), ⟨(fun _ _ => ⟨rfl, (Go.Avm.Pack.c_span _ _ _ _ _ _)⟩), ⟨?_, ⟨(fun _ _ => ⟨rfl, (Go.Avm.Pack.c_mkrel _ _ _ _)⟩), ⟨(fun _ _ => ⟨rfl, (Go.Avm.Pack.c_span _ _ _ _ _ _)⟩), ⟨(fun _ _ => ⟨rfl, (Go.Avm.Pack.c_span _ _ _ _ _ _)⟩), ⟨?_, ⟨(fun _ _ => ⟨rfl, (Go.Avm.Pack.c_mkrel _ _ _ _)⟩), ⟨?_, ⟨(fun _ _ => ⟨rfl, (does_conv (args' := [encR (KL.mk [] Fz.nil)]) (Go.Avm.Pack.c_mkrel _ (KL.mk [] Fz.nil) _ _) (by exact ⟨Le.nil, trivial⟩) (Le.refl _))⟩), ⟨(fun _ _ => ⟨rfl, (Go.Avm.Pack.c_span _ _ _ _ _ _)⟩), ⟨?_, ⟨(fun _ _ => ⟨rfl, (Go.Avm.Pack.c_mkrel _ _ _ _)⟩), ⟨(fun _ _ => ⟨rfl, (Go.Avm.Pack.c_span _ _ _ _ _ _)⟩), ⟨?_, ⟨(fun _ _ => ⟨rfl, (Go.Avm.Pack.c_mkrel _ _ _ _)⟩), ⟨?_, ⟨(fun _ _ => ⟨rfl, (does_conv (args' := [encR (KL.mk [] Fz.nil)]) (Go.Avm.Pack.c_mkrel _ (KL.mk [] Fz.nil) _ _) (by exact ⟨Le.nil, trivial⟩) (Le.refl _))⟩), ⟨(fun _ _ => ⟨rfl, (Go.Avm.Pack.c_span _ _ _ _ _ _)⟩), ⟨?_, ⟨(fun _ _ => ⟨rfl, (Go.Avm.Pack.c_mkbar _ _ _ _)⟩), ⟨?_, ⟨?_, ⟨(by omega), ⟨(fun c hc => match c, hc with | 0, _ => (by kernel_rfl) ), ?_⟩⟩⟩⟩⟩⟩⟩⟩⟩⟩⟩⟩⟩⟩⟩⟩⟩⟩⟩⟩⟩⟩⟩⟩⟩
 ·subst e1; exact opOk_litB (n := 1) (es := 3) (by kernel_rfl) (by exact ⟨⟨⟨⟨trivial, trivial⟩, trivial⟩, trivial⟩, trivial⟩) rfl rfl (fun i hi j hj => match i, hi, j, hj with | 0, _, 0, _ => (by kernel_rfl) | 0, _, 1, _ => (by kernel_rfl) | 0, _, 2, _ => (by kernel_rfl) ) (fun i hi j hj => match i, hi, j, hj with | 0, _, 0, _ => trivial | 0, _, 1, _ => trivial | 0, _, 2, _ => trivial )
 ·subst e2; exact opOk_litB (n := 2) (es := 3) (by kernel_rfl) (by exact ⟨⟨⟨⟨trivial, trivial⟩, trivial⟩, trivial⟩, ⟨⟨⟨⟨trivial, trivial⟩, trivial⟩, trivial⟩, trivial⟩⟩) rfl rfl (fun i hi j hj => match i, hi, j, hj with | 0, _, 0, _ => (by kernel_rfl) | 0, _, 1, _ => (by kernel_rfl) | 0, _, 2, _ => (by kernel_rfl) | 1, _, 0, _ => (by kernel_rfl) | 1, _, 1, _ => (by kernel_rfl) | 1, _, 2, _ => (by kernel_rfl) ) (fun i hi j hj => match i, hi, j, hj with | 0, _, 0, _ => trivial | 0, _, 1, _ => trivial | 0, _, 2, _ => trivial | 1, _, 0, _ => trivial | 1, _, 1, _ => trivial | 1, _, 2, _ => trivial )
 ·subst e1 e2 f0; exact opOk_litB (n := 3) (es := 2) (by kernel_rfl) (by exact ⟨⟨⟨trivial, trivial⟩, trivial⟩, ⟨⟨⟨trivial, trivial⟩, trivial⟩, ⟨⟨⟨trivial, trivial⟩, trivial⟩, trivial⟩⟩⟩) rfl rfl (fun i hi j hj => match i, hi, j, hj with | 0, _, 0, _ => (by kernel_rfl) | 0, _, 1, _ => (by kernel_rfl) | 1, _, 0, _ => (by kernel_rfl) | 1, _, 1, _ => (by kernel_rfl) | 2, _, 0, _ => (by kernel_rfl) | 2, _, 1, _ => (by kernel_rfl) ) (fun i hi j hj => match i, hi, j, hj with | 0, _, 0, _ => trivial | 0, _, 1, _ => trivial | 1, _, 0, _ => trivial | 1, _, 1, _ => trivial | 2, _, 0, _ => trivial | 2, _, 1, _ => trivial )
 ·subst e3; exact opOk_litB (n := 1) (es := 3) (by kernel_rfl) (by exact ⟨⟨⟨⟨trivial, trivial⟩, trivial⟩, trivial⟩, trivial⟩) rfl rfl (fun i hi j hj => match i, hi, j, hj with | 0, _, 0, _ => (by kernel_rfl) | 0, _, 1, _ => (by kernel_rfl) | 0, _, 2, _ => (by kernel_rfl) ) (fun i hi j hj => match i, hi, j, hj with | 0, _, 0, _ => trivial | 0, _, 1, _ => trivial | 0, _, 2, _ => trivial )
 ·subst e4; exact opOk_litB (n := 1) (es := 3) (by kernel_rfl) (by exact ⟨⟨⟨⟨trivial, trivial⟩, trivial⟩, trivial⟩, trivial⟩) rfl rfl (fun i hi j hj => match i, hi, j, hj with | 0, _, 0, _ => (by kernel_rfl) | 0, _, 1, _ => (by kernel_rfl) | 0, _, 2, _ => (by kernel_rfl) ) (fun i hi j hj => match i, hi, j, hj with | 0, _, 0, _ => trivial | 0, _, 1, _ => trivial | 0, _, 2, _ => trivial )
 ·subst e3 e4 f1; exact opOk_litB (n := 3) (es := 2) (by kernel_rfl) (by exact ⟨⟨⟨trivial, trivial⟩, trivial⟩, ⟨⟨⟨trivial, trivial⟩, trivial⟩, ⟨⟨⟨trivial, trivial⟩, trivial⟩, trivial⟩⟩⟩) rfl rfl (fun i hi j hj => match i, hi, j, hj with | 0, _, 0, _ => (by kernel_rfl) | 0, _, 1, _ => (by kernel_rfl) | 1, _, 0, _ => (by kernel_rfl) | 1, _, 1, _ => (by kernel_rfl) | 2, _, 0, _ => (by kernel_rfl) | 2, _, 1, _ => (by kernel_rfl) ) (fun i hi j hj => match i, hi, j, hj with | 0, _, 0, _ => trivial | 0, _, 1, _ => trivial | 1, _, 0, _ => trivial | 1, _, 1, _ => trivial | 2, _, 0, _ => trivial | 2, _, 1, _ => trivial )
 ·subst e5; exact opOk_litB (n := 1) (es := 3) (by kernel_rfl) (by exact ⟨⟨⟨⟨trivial, trivial⟩, trivial⟩, trivial⟩, trivial⟩) rfl rfl (fun i hi j hj => match i, hi, j, hj with | 0, _, 0, _ => (by kernel_rfl) | 0, _, 1, _ => (by kernel_rfl) | 0, _, 2, _ => (by kernel_rfl) ) (fun i hi j hj => match i, hi, j, hj with | 0, _, 0, _ => trivial | 0, _, 1, _ => trivial | 0, _, 2, _ => trivial )
 ·subst e5 f2; exact opOk_litB (n := 2) (es := 2) (by kernel_rfl) (by exact ⟨⟨⟨trivial, trivial⟩, trivial⟩, ⟨⟨⟨trivial, trivial⟩, trivial⟩, trivial⟩⟩) rfl rfl (fun i hi j hj => match i, hi, j, hj with | 0, _, 0, _ => (by kernel_rfl) | 0, _, 1, _ => (by kernel_rfl) | 1, _, 0, _ => (by kernel_rfl) | 1, _, 1, _ => (by kernel_rfl) ) (fun i hi j hj => match i, hi, j, hj with | 0, _, 0, _ => trivial | 0, _, 1, _ => trivial | 1, _, 0, _ => trivial | 1, _, 1, _ => trivial )
 ·subst hz e1 e2 e3 e4 e5 f0 f1 f2; exact opOk_litB (n := 3) (es := 1) (by kernel_rfl) (by exact ⟨trivial, ⟨trivial, ⟨trivial, trivial⟩⟩⟩) rfl rfl (fun i hi j hj => match i, hi, j, hj with | 0, _, 0, _ => (by kernel_rfl) | 1, _, 0, _ => (by kernel_rfl) | 2, _, 0, _ => (by kernel_rfl) ) (fun i hi j hj => match i, hi, j, hj with | 0, _, 0, _ => trivial | 1, _, 0, _ => trivial | 2, _, 0, _ => trivial )
 ·refine (retQ_le (retQ_drop (agg 1 (nth [fz z.2 1 (z.l.length) fun (i x : Nat) => fz (z.l.getD i default).2 2 ((z.l.getD i default).l.length) fun (i_1 : Nat) => relC ((z.l.getD i default).l.getD i_1 default)])) ([0 + (TyI.mk ((fun (x : TypeInfo) => x.desc) Tryd.prog.types[23]) Tryd.prog.types[24].size Tryd.prog.types[24].bytes (cellA (ofVal (Value.agg #[Value.slice none 0 0]))) (isAggD ((fun (x : TypeInfo) => x.desc) Tryd.prog.types[23])) (flatTy Tryd.prog 24)).size ≤ 1]) (by kernel_rfl) (by exact ⟨(by decide), trivial⟩) ⟨trivial, trivial⟩ rfl) (Le.of_eq (by kernel_rfl)))
end Go.Avm.Pack
namespace Go.Avm.Pack
open Go Go.Avm Go.Proofs
open Go.IntKind (i64 u64)
open Go.Avm.AV (int bool any fz fp sl ow ref fn ifc val agg tup)
open Go.Avm.AObj (cells dead)
open Go.Avm.Oc (ret)
set_option maxRecDepth 4000
theorem ext_getD {α : Type} [DecidableEq α] {a b : List α} (d : α) (h : a.length = b.length) (h2 : ∀ j, j < a.length → a.getD j d = b.getD j d) : a = b :=
 List.ext_getElem h (fun j h3 h4 => by have := h2 j h3; simpa [List.getD, h3, h4] using this)
theorem ne_getD {α : Type} {a b : List α} {d : α} {j : Nat} (h : a.getD j d ≠ b.getD j d) : a ≠ b := fun e => h (by rw [e])
theorem c_SameInts (R : Res) (a b : KL Int) (hp : List AObj) (g : R.σ) (hl : a.l.length < 1000000) : Does Tryd.prog R 35 [encI a, encI b] hp g (.ret (.bool (decide (a.l = b.l)))) hp g := by
 refine does_any' (fun R g => ?_) (by exact ⟨trivial, ⟨trivial, trivial⟩⟩) R hp g
 refine spec_of_wp (nt := 33) (rs := [.tmp 4]) (k0 := 0) (by kernel_rfl) (by kernel_rfl) (by kernel_rfl) rfl ?_
 refine vcQ [] (lkL [(0, [0, 1]), (1, [0, 1, 5])]) (fun _ => []) (fun Q => Wp Tryd.prog R 33 0 Rd.top (bodyOf Tryd.prog 35) [1, 0, 1, 0] (contQ Tryd.prog R 33 0 Rd.top (bodyOf Tryd.prog 35) Q [Kont.blk 0, Kont.seq [1, 1]]) (St.mk [(0, encI a), (1, encI b), (5, int i64 0)] [] g)) (fun _ => by kernel_rfl) (?_)
 refine (wp_loop (by kernel_rfl) (fun (i : Nat) => ⟨[(0, encI a), (1, encI b), (5, .int .i64 (i : Int))], [], g⟩) (fun (i : Nat) => (i ≤ a.l.length ∧ ∀ j, j < i → a.l.getD j 0 = b.l.getD j 0)) (fun (i : Nat) => (a.l.length - i)) 0 (to_fr ⟨(Le.refl _), ⟨(Le.refl _), ⟨(Le.of_eq (by kernel_rfl)), trivial⟩⟩⟩ rfl rfl) ?_ (fun i hi => ?_))
 ·exact ⟨Nat.zero_le _, fun j hj => absurd hj (by omega)⟩
 ·obtain ⟨h1, h2⟩ := hi
  refine vcQ [] (lkL [(2, [0, 1, 5, 16]), (4, [0, 1, 5, 27]), (5, [4]), (3, [0, 1, 5])]) (fun _ => []) (fun Q => (fun (u1 : Bool) => (fun (u2 : Int) => (u1 = true → Tables.follows Tryd.prog.toTables Departure.mixedOrders = true ∧ (0 ≤ u2 ∧ u2 < (a.l.length : Int)) ∧ 1 ≤ 1 ∧ (0 ≤ u2 ∧ u2 < (b.l.length : Int)) ∧ 1 ≤ 1 ∧ ((a.l.getD i 0 != b.l.getD i 0) = true → Q AEx.ret (St.mk [(4, AV.bool false)] [] g)) ∧ ((a.l.getD i 0 != b.l.getD i 0) = false → (-9223372036854775808 ≤ u2 + 1 ∧ u2 + 1 ≤ 9223372036854775807) ∧ Q AEx.normal (St.mk [(0, encI a), (1, encI b), (5, int i64 (u2 + 1))] [] g))) ∧ (u1 = false → Q (AEx.exit 0) (St.mk [(0, encI a), (1, encI b), (5, int i64 u2), (16, AV.bool u1)] [] g))) ((i : Int))) (bif decide ((i : Int) < (a.l.length : Int)) then (a.l.length : Int) == (b.l.length : Int) else false)) (fun _ => by kernel_rfl) ⟨fun c1 => have c1 : (i : Int) < (a.l.length : Int) ∧ (a.l.length : Int) = (b.l.length : Int) := ⟨(of_decide_eq_true (cA_t c1).1), (beq_iff_eq.mp (cA_t c1).2)⟩; ⟨(by kernel_rfl), ⟨(by omega), ⟨(by omega), ⟨(by omega), ⟨(by omega), ⟨fun c2 => have c2 : ¬a.l.getD i 0 = b.l.getD i 0 := (bne_iff_ne.mp c2); ?_, fun c2 => have c2 : a.l.getD i 0 = b.l.getD i 0 := (bne_eq_false_iff_eq.mp c2); ⟨(by omega), ?_⟩⟩⟩⟩⟩⟩⟩, fun c1 => have c1 : ¬(i : Int) < (a.l.length : Int) ∨ ¬(a.l.length : Int) = (b.l.length : Int) := ((cA_f c1).imp (fun h => (of_decide_eq_false h)) (fun h => (beq_eq_false_iff_ne.mp h))); ?_⟩
  ·refine ⟨_, To.refl _, (retQ_le (retQ_same' _ _ rfl trivial rfl rfl rfl) (Le.of_eq ?_))⟩
   show (AV.bool false) = _
   congr 1
   have : a.l ≠ b.l := ne_getD (j := i) (d := 0) c2
   simp [this]
  ·refine (next_round (i + 1) (to_fr ⟨(Le.refl _), ⟨(Le.refl _), ⟨(Le.of_eq (by kernel_rfl)), trivial⟩⟩⟩ rfl rfl) ?_ ?_)
   ·refine ⟨by omega, fun j hj => ?_⟩
    rcases Nat.lt_or_ge j i with h | h
    ·exact h2 j h
    ·have : j = i := by omega
     subst this; exact c2
   ·omega
  ·have c := c1
   refine ⟨_, To.refl _, vcQ [] (lkL [(6, [4])]) (fun _ => []) (fun Q => Q AEx.ret (St.mk [(4, AV.bool ((a.l.length : Int) == (b.l.length : Int)))] [] g)) (fun _ => by kernel_rfl) (?_)⟩
   refine (retQ_le (retQ_same' _ _ rfl trivial rfl rfl rfl) (Le.of_eq ?_))
   show (AV.bool ((↑(List.length a.l) : Int) == (↑(List.length b.l) : Int))) = _
   congr 1
   by_cases hab : a.l.length = b.l.length
   ·have : a.l = b.l := ext_getD 0 hab (fun j hj => h2 j (by omega))
    simp [this]
   ·have : a.l ≠ b.l := fun e => hab (by rw [e])
    simp [this]
    omega
def eqC (c d : Clause) : Bool := (c.pack == d.pack) && ((c.rel == d.rel) && ((c.bar == d.bar) && ((c.which == d.which) && true)))
theorem eqC_iff {c d : Clause} : eqC c d = true ↔ c = d := by
 cases c; cases d
 simp [eqC]
theorem c_SameClauses (R : Res) (a b : KL Clause) (hp : List AObj) (g : R.σ) (hl : a.l.length < 1000000) : Does Tryd.prog R 36 [encC a, encC b] hp g (.ret (.bool (decide (a.l = b.l)))) hp g := by
 refine does_any' (fun R g => ?_) (by exact ⟨trivial, ⟨trivial, trivial⟩⟩) R hp g
 refine spec_of_wp (nt := 33) (rs := [.tmp 4]) (k0 := 0) (by kernel_rfl) (by kernel_rfl) (by kernel_rfl) rfl ?_
 refine vcQ [] (lkL [(0, [0, 1]), (1, [0, 1, 5])]) (fun _ => []) (fun Q => Wp Tryd.prog R 33 0 Rd.top (bodyOf Tryd.prog 36) [1, 0, 1, 0] (contQ Tryd.prog R 33 0 Rd.top (bodyOf Tryd.prog 36) Q [Kont.blk 0, Kont.seq [1, 1]]) (St.mk [(0, encC a), (1, encC b), (5, int i64 0)] [] g)) (fun _ => by kernel_rfl) (?_)
 refine (wp_loop (by kernel_rfl) (fun (i : Nat) => ⟨[(0, encC a), (1, encC b), (5, .int .i64 (i : Int))], [], g⟩) (fun (i : Nat) => (i ≤ a.l.length ∧ ∀ j, j < i → a.l.getD j default = b.l.getD j default)) (fun (i : Nat) => (a.l.length - i)) 0 (to_fr ⟨(Le.refl _), ⟨(Le.refl _), ⟨(Le.of_eq (by kernel_rfl)), trivial⟩⟩⟩ rfl rfl) ?_ (fun i hi => ?_))
 ·exact ⟨Nat.zero_le _, fun j hj => absurd hj (by omega)⟩
 ·obtain ⟨h1, h2⟩ := hi
  refine vcQ [] (lkL [(2, [0, 1, 5, 16]), (4, [0, 1, 5, 27]), (5, [4]), (3, [0, 1, 5])]) (fun _ => []) (fun Q => (fun (u1 : Bool) => (fun (u2 : Bool) => (fun (u3 : Int) => (u2 = true → Tables.follows Tryd.prog.toTables Departure.mixedOrders = true ∧ (0 ≤ u3 ∧ u3 < (a.l.length : Int)) ∧ 4 ≤ 4 ∧ (0 ≤ u3 ∧ u3 < (b.l.length : Int)) ∧ 4 ≤ 4 ∧ (u1 = true → Q AEx.ret (St.mk [(4, AV.bool false)] [] g)) ∧ (u1 = false → (-9223372036854775808 ≤ u3 + 1 ∧ u3 + 1 ≤ 9223372036854775807) ∧ Q AEx.normal (St.mk [(0, encC a), (1, encC b), (5, int i64 (u3 + 1))] [] g))) ∧ (u2 = false → Q (AEx.exit 0) (St.mk [(0, encC a), (1, encC b), (5, int i64 u3), (16, AV.bool u2)] [] g))) ((i : Int))) (bif decide ((i : Int) < (a.l.length : Int)) then (a.l.length : Int) == (b.l.length : Int) else false)) (!((a.l.getD i default).pack == (b.l.getD i default).pack && ((a.l.getD i default).rel == (b.l.getD i default).rel && ((a.l.getD i default).bar == (b.l.getD i default).bar && ((a.l.getD i default).which == (b.l.getD i default).which && true)))))) (fun _ => by kernel_rfl) ⟨fun c1 => have c1 : (i : Int) < (a.l.length : Int) ∧ (a.l.length : Int) = (b.l.length : Int) := ⟨(of_decide_eq_true (cA_t c1).1), (beq_iff_eq.mp (cA_t c1).2)⟩; ⟨(by kernel_rfl), ⟨(by omega), ⟨(by omega), ⟨(by omega), ⟨(by omega), ⟨fun c2 => have c2 : ((a.l.getD i default).pack == (b.l.getD i default).pack && ((a.l.getD i default).rel == (b.l.getD i default).rel && ((a.l.getD i default).bar == (b.l.getD i default).bar && ((a.l.getD i default).which == (b.l.getD i default).which && true)))) = false := ((Bool.not_eq_true' _).mp c2); ?_, fun c2 => have c2 : ((a.l.getD i default).pack == (b.l.getD i default).pack && ((a.l.getD i default).rel == (b.l.getD i default).rel && ((a.l.getD i default).bar == (b.l.getD i default).bar && ((a.l.getD i default).which == (b.l.getD i default).which && true)))) = true := ((Bool.not_eq_false' _).mp c2); ⟨(by omega), ?_⟩⟩⟩⟩⟩⟩⟩, fun c1 => have c1 : ¬(i : Int) < (a.l.length : Int) ∨ ¬(a.l.length : Int) = (b.l.length : Int) := ((cA_f c1).imp (fun h => (of_decide_eq_false h)) (fun h => (beq_eq_false_iff_ne.mp h))); ?_⟩
  ·have c2 : eqC (a.l.getD i default) (b.l.getD i default) = false := c2
   refine ⟨_, To.refl _, (retQ_le (retQ_same' _ _ rfl trivial rfl rfl rfl) (Le.of_eq ?_))⟩
   show (AV.bool false) = _
   congr 1
   have : a.l ≠ b.l := ne_getD (j := i) (d := default) (fun e => by rw [eqC_iff.2 e] at c2; cases c2)
   simp [this]
  ·have c2 : eqC (a.l.getD i default) (b.l.getD i default) = true := c2
   refine (next_round (i + 1) (to_fr ⟨(Le.refl _), ⟨(Le.refl _), ⟨(Le.of_eq (by kernel_rfl)), trivial⟩⟩⟩ rfl rfl) ?_ ?_)
   ·refine ⟨by omega, fun j hj => ?_⟩
    rcases Nat.lt_or_ge j i with h | h
    ·exact h2 j h
    ·have : j = i := by omega
     subst this; exact eqC_iff.1 c2
   ·omega
  ·have c := c1
   refine ⟨_, To.refl _, vcQ [] (lkL [(6, [4])]) (fun _ => []) (fun Q => Q AEx.ret (St.mk [(4, AV.bool ((a.l.length : Int) == (b.l.length : Int)))] [] g)) (fun _ => by kernel_rfl) (?_)⟩
   refine (retQ_le (retQ_same' _ _ rfl trivial rfl rfl rfl) (Le.of_eq ?_))
   show (AV.bool ((↑(List.length a.l) : Int) == (↑(List.length b.l) : Int))) = _
   congr 1
   by_cases hab : a.l.length = b.l.length
   ·have : a.l = b.l := ext_getD default hab (fun j hj => h2 j (by omega))
    simp [this]
   ·have : a.l ≠ b.l := fun e => hab (by rw [e])
    simp [this]
    omega
end Go.Avm.Pack
namespace Go.Avm.Pack
open Go Go.Avm Go.Proofs
open Go.IntKind (i64 u64)
open Go.Avm.AV (int bool any fz fp sl ow ref fn ifc val agg tup)
open Go.Avm.AObj (cells dead)
open Go.Avm.Oc (ret)
set_option maxRecDepth 4000
def aG1 : KL Rng := ⟨[⟨0, 0, 2⟩], .exa⟩
def aG2 : KL Rng := ⟨[⟨0, 2, 2⟩], .exa⟩
def aI1 : KL Int := ⟨[2, 2, 1], .exa⟩
def aI2 : KL Int := ⟨[-1, 1, 0], .exa⟩
def aI3 : KL Int := ⟨[1, 1, 0], .exa⟩
def aC1 : KL Clause := ⟨[⟨-1, 0, false, 0⟩, ⟨0, 2, false, 0⟩, ⟨1, 2, false, 0⟩, ⟨2, 1, true, 0⟩], .exa⟩
theorem small_aIx : small aIx := by
 refine ⟨by decide, fun i => ?_⟩
 match i with
 | 0 => decide
 | 1 => decide
 | 2 => decide
 | _ + 3 => exact (by decide : (default : KL Rel).l.length < 1000000)
theorem ex_fault : faultR aIx aG1.l aI1.l = (3, 2, 0) := by kernel_rfl
theorem ex_best : bestR aIx aG1.l = ([1, 1, 0], 0) := by kernel_rfl
theorem ex_core : coreR aIx aG2.l = (aC1.l, 0) := by kernel_rfl
theorem ex_near : nearR aIx aG1.l aI2.l = ([1, 1, 0], 1, 0) := by kernel_rfl
theorem c_works (R : Res) (hp : List AObj) (g : R.σ) : Does Tryd.prog R 8 [] hp g (.ret (.bool true)) hp g := by
 refine does_any' (fun R g => ?_) (by exact trivial) R hp g
 have hs := small_aIx
 have f1 := ex_fault
 have f2 := ex_best
 have f3 := ex_core
 have f4 := ex_near
 have l1 : aG1.l.length < 1000000 := by decide
 have l2 : aG2.l.length < 1000000 := by decide
 have l3 : (bestR aIx aG1.l).1.length < 1000000 := by rw [f2]; decide
 have l4 : (coreR aIx aG2.l).1.length < 1000000 := by rw [f3]; decide
 have l5 : (nearR aIx aG1.l aI2.l).1.length < 1000000 := by rw [f4]; decide
 have e1 : aC1.l = aC1.l := rfl
 obtain ⟨z, hz⟩ : ∃ v, v = aIx := ⟨_, rfl⟩
 obtain ⟨g1, hg1⟩ : ∃ v, v = aG1 := ⟨_, rfl⟩
 obtain ⟨g2, hg2⟩ : ∃ v, v = aG2 := ⟨_, rfl⟩
 obtain ⟨i1, hi1⟩ : ∃ v, v = aI1 := ⟨_, rfl⟩
 obtain ⟨i2, hi2⟩ : ∃ v, v = aI2 := ⟨_, rfl⟩
 obtain ⟨i3, hi3⟩ : ∃ v, v = aI3 := ⟨_, rfl⟩
 obtain ⟨k1, hk1⟩ : ∃ v, v = aC1 := ⟨_, rfl⟩
 rw [← hz] at hs f1 f2 f3 f4 l3 l4 l5
 rw [← hg1] at f1 f2 f4 l1 l3 l5
 rw [← hg2] at f3 l2 l4
 rw [← hi1] at f1
 rw [← hi2] at f4 l5
 rw [← hk1] at f3
 refine spec_of_wp (nt := 90) (rs := [.tmp 0]) (k0 := 0) (by kernel_rfl) (by kernel_rfl) (by kernel_rfl) rfl ?_
 refine vcQ [] (lkL [(1, [1, 2, 3]), (2, [1, 2, 3, 4, 5]), (3, [1, 2, 3, 4, 5, 6, 7]), (4, [1, 2, 3, 4, 5, 6, 7, 8, 9, 10]), (5, [1, 2, 4, 6, 8, 9, 60]), (6, [0]), (7, [0])]) (lkL [(1, [(0, ROrc.pcall (encIx z)), (1, ROrc.pcall (encRng (Rng.mk 0 0 2))), (2, ROrc.kop (encR g1)), (3, ROrc.pcall (encR g1)), (4, ROrc.kop (encI i1)), (5, ROrc.pcall (tup 3 (nth [int i64 (faultR z g1.l i1.l).fst, int i64 (faultR z g1.l i1.l).snd.fst, int i64 (faultR z g1.l i1.l).snd.snd])))]), (2, [(0, ROrc.pcall (encIx z)), (1, ROrc.pcall (encRng (Rng.mk 0 0 2))), (2, ROrc.kop (encR g1)), (3, ROrc.pcall (encR g1)), (4, ROrc.pcall (tup 2 (nth [encI (KL.mk (bestR z g1.l).fst Fz.auto), int i64 (bestR z g1.l).snd])))]), (3, [(0, ROrc.pcall (encIx z)), (1, ROrc.pcall (encRng (Rng.mk 0 2 2))), (2, ROrc.kop (encR g2)), (3, ROrc.pcall (encR g2)), (4, ROrc.pcall (tup 2 (nth [encC (KL.mk (coreR z g2.l).fst Fz.may), int i64 (coreR z g2.l).snd])))]), (4, [(0, ROrc.pcall (encIx z)), (1, ROrc.pcall (encRng (Rng.mk 0 0 2))), (2, ROrc.kop (encR g1)), (3, ROrc.pcall (encR g1)), (4, ROrc.kop (encI i2)), (5, ROrc.pcall (tup 3 (nth [encI (KL.mk (nearR z g1.l i2.l).fst Fz.auto), int i64 (nearR z g1.l i2.l).snd.fst, int i64 (nearR z g1.l i2.l).snd.snd])))]), (7, [(8, ROrc.kop (encI i3)), (9, ROrc.pcall (AV.bool (decide ((KL.mk (bestR z g1.l).1 Fz.auto).l = i3.l)))), (17, ROrc.kop (encC k1)), (18, ROrc.pcall (AV.bool (decide ((KL.mk (coreR z g2.l).1 Fz.may).l = k1.l)))), (22, ROrc.kop (encI i3)), (23, ROrc.pcall (AV.bool (decide ((KL.mk (nearR z g1.l i2.l).1 Fz.auto).l = i3.l))))])]) (fun Q => (fun (u1 : List Row) => (fun (u2 : List (Nat × AV)) => (fun (u3 : Bool) => (fun (u4 : AV) => (fun (u5 : Bool) => (fun (u6 : Int × Int × Int) => (fun (u7 : AV) => (fun (u8 : List AV) => (fun (u9 : AV) => (fun (u10 : Bool) => (fun (u11 : Operand) => (fun (u12 : List (Nat × AV)) => (fun (u13 : Option (List Nat)) => (fun (u14 : List Row) => (fun (u15 : List Row) => (fun (u16 : Op) => (∀ (hp : List AObj) (g : R.σ), true = true ∧ Does Tryd.prog R 16 [] hp g (ret (encIx z)) hp g) ∧ (∀ (hp : List AObj) (g : R.σ), true = true ∧ Does Tryd.prog R 14 u8 hp g (ret (agg 3 (nth u8))) hp g) ∧ OpOk Tryd.prog R (Oper.mk (some 14) (Op.buildSlice 34 1 #[(0, Operand.tmp 13)]) 34 "law.go:34" #[Edge.mk 1 Ground.data] none) (evO u15 [] []) [] g (encR g1) [] g ∧ (∀ (hp : List AObj) (g : R.σ), true = true ∧ Does Tryd.prog R 13 [encR g1] hp g (ret (encR g1)) hp g) ∧ OpOk Tryd.prog R (Oper.mk (some 16) (Op.buildSlice 43 3 #[(0, Operand.const (Value.int i64 2)), (1, Operand.const (Value.int i64 2)), (2, u11)]) 43 "law.go:34" #[] none) (evO (Row.mk (some 15) none (encR g1) false u13 [] :: Row.mk (some 14) none (encR g1) true u13 [] :: u15) [] []) [] g (encI i1) [] g ∧ (∀ (hp : List AObj) (g : R.σ), true = true ∧ Does Tryd.prog R 15 [encIx z, encR g1, encI i1] hp g (ret (tup 3 (nth [int i64 u6.fst, int i64 u6.snd.fst, int i64 u6.snd.snd]))) hp g) ∧ (∀ (hp : List AObj) (g : R.σ), true = true ∧ Does Tryd.prog R 16 [] hp g (ret (encIx z)) hp g) ∧ (∀ (hp : List AObj) (g : R.σ), true = true ∧ Does Tryd.prog R 14 u8 hp g (ret (agg 3 (nth u8))) hp g) ∧ OpOk Tryd.prog R (Oper.mk (some 24) (Op.buildSlice 34 1 #[(0, Operand.tmp 23)]) 34 "law.go:35" #[Edge.mk 1 Ground.data] none) (evO [Row.mk (some 23) none (agg 3 (nth u8)) false u13 [], Row.mk (some 22) none (encIx z) false u13 []] [(1, int i64 u6.fst), (2, int i64 u6.snd.fst), (3, int i64 u6.snd.snd)] []) [] g (encR g1) [] g ∧ (∀ (hp : List AObj) (g : R.σ), true = true ∧ Does Tryd.prog R 13 [encR g1] hp g (ret (encR g1)) hp g) ∧ (∀ (hp : List AObj) (g : R.σ), true = true ∧ Does Tryd.prog R 17 [encIx z, encR g1] hp g (ret (tup 2 (nth [u4, int i64 (bestR z g1.l).snd]))) hp g) ∧ (∀ (hp : List AObj) (g : R.σ), true = true ∧ Does Tryd.prog R 16 [] hp g (ret (encIx z)) hp g) ∧ (∀ (hp : List AObj) (g : R.σ), true = true ∧ Does Tryd.prog R 14 [int i64 0, int i64 2, int i64 2] hp g (ret (agg 3 (nth [int i64 0, int i64 2, int i64 2]))) hp g) ∧ OpOk Tryd.prog R (Oper.mk (some 32) (Op.buildSlice 34 1 #[(0, Operand.tmp 31)]) 34 "law.go:36" #[Edge.mk 1 Ground.data] none) (evO [Row.mk (some 31) none (agg 3 (nth [int i64 0, int i64 2, int i64 2])) false u13 [], Row.mk (some 30) none (encIx z) false u13 []] [(1, int i64 u6.fst), (2, int i64 u6.snd.fst), (3, int i64 u6.snd.snd), (4, u4), (5, int i64 (bestR z g1.l).snd)] []) [] g (encR g2) [] g ∧ (∀ (hp : List AObj) (g : R.σ), true = true ∧ Does Tryd.prog R 13 [encR g2] hp g (ret (encR g2)) hp g) ∧ (∀ (hp : List AObj) (g : R.σ), true = true ∧ Does Tryd.prog R 20 [encIx z, encR g2] hp g (ret (tup 2 (nth [u7, int i64 (coreR z g2.l).snd]))) hp g) ∧ (∀ (hp : List AObj) (g : R.σ), true = true ∧ Does Tryd.prog R 16 [] hp g (ret (encIx z)) hp g) ∧ (∀ (hp : List AObj) (g : R.σ), true = true ∧ Does Tryd.prog R 14 u8 hp g (ret (agg 3 (nth u8))) hp g) ∧ OpOk Tryd.prog R (Oper.mk (some 40) (Op.buildSlice 34 1 #[(0, Operand.tmp 39)]) 34 "law.go:37" #[Edge.mk 1 Ground.data] none) (evO u14 u12 []) [] g (encR g1) [] g ∧ (∀ (hp : List AObj) (g : R.σ), true = true ∧ Does Tryd.prog R 13 [encR g1] hp g (ret (encR g1)) hp g) ∧ OpOk Tryd.prog R (Oper.mk (some 42) (Op.buildSlice 43 3 #[(0, Operand.const (Value.int i64 (-1))), (1, u11), (2, Operand.const (Value.int i64 0))]) 43 "law.go:37" #[] none) (evO (Row.mk (some 41) none (encR g1) false u13 [] :: Row.mk (some 40) none (encR g1) true u13 [] :: u14) u12 []) [] g (encI i2) [] g ∧ (∀ (hp : List AObj) (g : R.σ), true = true ∧ Does Tryd.prog R 19 [encIx z, encR g1, encI i2] hp g (ret (tup 3 (nth [u9, int i64 (nearR z g1.l i2.l).snd.fst, int i64 (nearR z g1.l i2.l).snd.snd]))) hp g) ∧ (u10 = true → Q AEx.ret (St.mk [(0, AV.bool false)] [] g)) ∧ (u10 = false → (u3 = true → OpOk Tryd.prog R (Oper.mk (some 69) u16 43 "law.go:41" #[Edge.mk 6 Ground.guard] (some (6, true))) (evO [Row.mk (some 68) (some (6, true)) u4 false u13 [], Row.mk (some 67) none (AV.bool u3) false u13 [], Row.mk (some 66) none (AV.bool u3) false u13 [], Row.mk (some 65) (some (2, true)) (AV.bool (u6.snd.fst == 2)) false u13 [], Row.mk (some 64) (some (2, true)) (int i64 u6.snd.fst) false u13 [], Row.mk (some 63) none (AV.bool (u6.fst == 3)) false u13 [], Row.mk (some 62) none (AV.bool (u6.fst == 3)) false u13 [], Row.mk (some 61) none (int i64 u6.fst) false u13 []] u2 [(6, true)]) [] g (encI i3) [] g) ∧ (u3 = true → ∀ (hp : List AObj) (g : R.σ), true = true ∧ Does Tryd.prog R 35 [u4, encI i3] hp g (ret (AV.bool (decide ((bestR z g1.l).1 = i3.l)))) hp g) ∧ ((bif u3 then decide ((bestR z g1.l).1 = i3.l) else false) = true → OpOk Tryd.prog R (Oper.mk (some 78) (Op.buildSlice 52 4 #[(0, Operand.tmp 74), (1, Operand.tmp 75), (2, Operand.tmp 76), (3, Operand.tmp 77)]) 52 "law.go:41" #[Edge.mk 13 Ground.data, Edge.mk 14 Ground.data, Edge.mk 15 Ground.data, Edge.mk 16 Ground.data, Edge.mk 11 Ground.guard] (some (11, true))) (evO u1 u2 [(11, true)]) [] g (encC k1) [] g) ∧ ((bif u3 then decide ((bestR z g1.l).1 = i3.l) else false) = true → ∀ (hp : List AObj) (g : R.σ), true = true ∧ Does Tryd.prog R 36 [u7, encC k1] hp g (ret (AV.bool (decide ((coreR z g2.l).1 = k1.l)))) hp g) ∧ (u5 = true → OpOk Tryd.prog R (Oper.mk (some 83) u16 43 "law.go:41" #[Edge.mk 20 Ground.guard] (some (20, true))) (evO (Row.mk (some 82) (some (20, true)) u9 false u13 [] :: Row.mk (some 81) none (AV.bool u5) false u13 [] :: Row.mk (some 80) none (AV.bool u5) false u13 [] :: Row.mk (some 79) (some (11, true)) (AV.bool (decide ((coreR z g2.l).1 = k1.l))) false u13 [] :: Row.mk (some 78) (some (11, true)) (encC k1) true u13 [] :: u1) u2 [(20, true)]) [] g (encI i3) [] g) ∧ (u5 = true → ∀ (hp : List AObj) (g : R.σ), true = true ∧ Does Tryd.prog R 35 [u9, encI i3] hp g (ret (AV.bool (decide ((nearR z g1.l i2.l).1 = i3.l)))) hp g) ∧ Q AEx.ret (St.mk [(0, AV.bool (bif bif u5 then decide ((nearR z g1.l i2.l).1 = i3.l) else false then (nearR z g1.l i2.l).snd.fst == 1 else false))] [] g))) (Op.buildSlice 43 3 #[(0, u11), (1, u11), (2, Operand.const (Value.int i64 0))])) ([Row.mk (some 13) none (agg 3 (nth u8)) false u13 [], Row.mk (some 12) none (encIx z) false u13 []])) ([Row.mk (some 39) none (agg 3 (nth u8)) false u13 [], Row.mk (some 38) none (encIx z) false u13 []])) (some [])) ([(1, int i64 u6.fst), (2, int i64 u6.snd.fst), (3, int i64 u6.snd.snd), (4, u4), (5, int i64 (bestR z g1.l).snd), (6, u7), (7, int i64 (coreR z g2.l).snd)])) (Operand.const (Value.int i64 1))) (bif bif bif u6.snd.snd != 0 then true else (bestR z g1.l).snd != 0 then true else (coreR z g2.l).snd != 0 then true else (nearR z g1.l i2.l).snd.snd != 0)) (fz Fz.auto 1 ((nearR z g1.l i2.l).fst.length) fun (i x : Nat) => int i64 ((nearR z g1.l i2.l).fst.getD i 0))) ([int i64 0, int i64 0, int i64 2])) (fz Fz.may 4 ((coreR z g2.l).fst.length) fun (i : Nat) => clC ((coreR z g2.l).fst.getD i default))) (faultR z g1.l i1.l)) (bif bif u3 then decide ((bestR z g1.l).1 = i3.l) else false then decide ((coreR z g2.l).1 = k1.l) else false)) (fz Fz.auto 1 ((bestR z g1.l).fst.length) fun (i x : Nat) => int i64 ((bestR z g1.l).fst.getD i 0))) (bif (faultR z g1.l i1.l).fst == 3 then (faultR z g1.l i1.l).snd.fst == 2 else false)) ([(1, int i64 (faultR z g1.l i1.l).fst), (2, int i64 (faultR z g1.l i1.l).snd.fst), (4, fz Fz.auto 1 ((bestR z g1.l).fst.length) fun (i x : Nat) => int i64 ((bestR z g1.l).fst.getD i 0)), (6, fz Fz.may 4 ((coreR z g2.l).fst.length) fun (i : Nat) => clC ((coreR z g2.l).fst.getD i default)), (8, fz Fz.auto 1 ((nearR z g1.l i2.l).fst.length) fun (i x : Nat) => int i64 ((nearR z g1.l i2.l).fst.getD i 0)), (9, int i64 (nearR z g1.l i2.l).snd.fst), (60, AV.bool (bif bif bif (faultR z g1.l i1.l).snd.snd != 0 then true else (bestR z g1.l).snd != 0 then true else (coreR z g2.l).snd != 0 then true else (nearR z g1.l i2.l).snd.snd != 0))])) ([Row.mk (some 77) (some (11, true)) (agg 4 (nth [int i64 2, int i64 1, AV.bool true, int i64 0])) false (some []) [], Row.mk (some 76) (some (11, true)) (agg 4 (nth [int i64 1, int i64 2, AV.bool false, int i64 0])) false (some []) [], Row.mk (some 75) (some (11, true)) (agg 4 (nth [int i64 0, int i64 2, AV.bool false, int i64 0])) false (some []) [], Row.mk (some 74) (some (11, true)) (agg 4 (nth [int i64 (-1), int i64 0, AV.bool false, int i64 0])) false (some []) [], Row.mk (some 73) (some (11, true)) (fz Fz.may 4 ((coreR z g2.l).fst.length) fun (i : Nat) => clC ((coreR z g2.l).fst.getD i default)) false (some []) [], Row.mk (some 72) none (AV.bool (bif bif (faultR z g1.l i1.l).fst == 3 then (faultR z g1.l i1.l).snd.fst == 2 else false then decide ((bestR z g1.l).1 = i3.l) else false)) false (some []) [], Row.mk (some 71) none (AV.bool (bif bif (faultR z g1.l i1.l).fst == 3 then (faultR z g1.l i1.l).snd.fst == 2 else false then decide ((bestR z g1.l).1 = i3.l) else false)) false (some []) [], Row.mk (some 70) (some (6, true)) (AV.bool (decide ((bestR z g1.l).1 = i3.l))) false (some []) [], Row.mk (some 69) (some (6, true)) (encI i3) true (some []) [], Row.mk (some 68) (some (6, true)) (fz Fz.auto 1 ((bestR z g1.l).fst.length) fun (i x : Nat) => int i64 ((bestR z g1.l).fst.getD i 0)) false (some []) [], Row.mk (some 67) none (AV.bool (bif (faultR z g1.l i1.l).fst == 3 then (faultR z g1.l i1.l).snd.fst == 2 else false)) false (some []) [], Row.mk (some 66) none (AV.bool (bif (faultR z g1.l i1.l).fst == 3 then (faultR z g1.l i1.l).snd.fst == 2 else false)) false (some []) [], Row.mk (some 65) (some (2, true)) (AV.bool ((faultR z g1.l i1.l).snd.fst == 2)) false (some []) [], Row.mk (some 64) (some (2, true)) (int i64 (faultR z g1.l i1.l).snd.fst) false (some []) [], Row.mk (some 63) none (AV.bool ((faultR z g1.l i1.l).fst == 3)) false (some []) [], Row.mk (some 62) none (AV.bool ((faultR z g1.l i1.l).fst == 3)) false (some []) [], Row.mk (some 61) none (int i64 (faultR z g1.l i1.l).fst) false (some []) []])) (fun _ => by kernel_rfl) ⟨?_, ⟨(fun _ _ => ⟨rfl, (Go.Avm.Pack.c_span _ _ _ _ _ _)⟩), ⟨?_, ⟨(fun _ _ => ⟨rfl, (Go.Avm.Pack.c_goals _ _ _ _)⟩), ⟨?_, ⟨(fun _ _ => ⟨rfl, (Go.Avm.Pack.c_Fault _ _ _ _ _ _ (by omega) (by omega))⟩), ⟨?_, ⟨(fun _ _ => ⟨rfl, (Go.Avm.Pack.c_span _ _ _ _ _ _)⟩), ⟨?_, ⟨(fun _ _ => ⟨rfl, (Go.Avm.Pack.c_goals _ _ _ _)⟩), ⟨(fun _ _ => ⟨rfl, (Go.Avm.Pack.c_Best _ _ _ _ _ (by omega) (by omega))⟩), ⟨?_, ⟨(fun _ _ => ⟨rfl, (Go.Avm.Pack.c_span _ _ _ _ _ _)⟩), ⟨?_, ⟨(fun _ _ => ⟨rfl, (Go.Avm.Pack.c_goals _ _ _ _)⟩), ⟨(fun _ _ => ⟨rfl, (Go.Avm.Pack.c_Core _ _ _ _ _ (by omega) (by omega))⟩), ⟨?_, ⟨(fun _ _ => ⟨rfl, (Go.Avm.Pack.c_span _ _ _ _ _ _)⟩), ⟨?_, ⟨(fun _ _ => ⟨rfl, (Go.Avm.Pack.c_goals _ _ _ _)⟩), ⟨?_, ⟨(fun _ _ => ⟨rfl, (Go.Avm.Pack.c_Closest _ _ _ _ _ _ (by omega) (by omega))⟩), ⟨fun c1 => have c1 : ((¬(faultR z g1.l i1.l).snd.snd = 0 ∨ ¬(bestR z g1.l).snd = 0) ∨ ¬(coreR z g2.l).snd = 0) ∨ ¬(nearR z g1.l i2.l).snd.snd = 0 := ((cO_t c1).imp (fun h => ((cO_t h).imp (fun h => ((cO_t h).imp (fun h => (bne_iff_ne.mp h)) (fun h => (bne_iff_ne.mp h)))) (fun h => (bne_iff_ne.mp h)))) (fun h => (bne_iff_ne.mp h))); ?_, fun c1 => have c1 : (((faultR z g1.l i1.l).snd.snd = 0 ∧ (bestR z g1.l).snd = 0) ∧ (coreR z g2.l).snd = 0) ∧ (nearR z g1.l i2.l).snd.snd = 0 := ⟨⟨⟨(bne_eq_false_iff_eq.mp (cO_f (cO_f (cO_f c1).1).1).1), (bne_eq_false_iff_eq.mp (cO_f (cO_f (cO_f c1).1).1).2)⟩, (bne_eq_false_iff_eq.mp (cO_f (cO_f c1).1).2)⟩, (bne_eq_false_iff_eq.mp (cO_f c1).2)⟩; ⟨?_, ⟨(fun hgd => (fun _ _ => ⟨rfl, (Go.Avm.Pack.c_SameInts _ (KL.mk (bestR z g1.l).1 Fz.auto) _ _ _ (by omega))⟩)), ⟨?_, ⟨(fun hgd => (fun _ _ => ⟨rfl, (Go.Avm.Pack.c_SameClauses _ (KL.mk (coreR z g2.l).1 Fz.may) _ _ _ (by omega))⟩)), ⟨?_, ⟨(fun hgd => (fun _ _ => ⟨rfl, (Go.Avm.Pack.c_SameInts _ (KL.mk (nearR z g1.l i2.l).1 Fz.auto) _ _ _ (by omega))⟩)), ?_⟩⟩⟩⟩⟩⟩⟩⟩⟩⟩⟩⟩⟩⟩⟩⟩⟩⟩⟩⟩⟩⟩⟩⟩⟩⟩⟩⟩⟩
 ·intro hp g; subst hz; exact ⟨rfl, c_A R hp g⟩
 ·subst hg1; exact opOk_litB (n := 1) (es := 3) (by kernel_rfl) (by exact ⟨⟨⟨⟨trivial, trivial⟩, trivial⟩, trivial⟩, trivial⟩) rfl rfl (fun i hi j hj => match i, hi, j, hj with | 0, _, 0, _ => (by kernel_rfl) | 0, _, 1, _ => (by kernel_rfl) | 0, _, 2, _ => (by kernel_rfl) ) (fun i hi j hj => match i, hi, j, hj with | 0, _, 0, _ => trivial | 0, _, 1, _ => trivial | 0, _, 2, _ => trivial )
 ·subst hi1; exact opOk_litB (n := 3) (es := 1) (by kernel_rfl) (by exact ⟨trivial, ⟨trivial, ⟨trivial, trivial⟩⟩⟩) rfl rfl (fun i hi j hj => match i, hi, j, hj with | 0, _, 0, _ => (by kernel_rfl) | 1, _, 0, _ => (by kernel_rfl) | 2, _, 0, _ => (by kernel_rfl) ) (fun i hi j hj => match i, hi, j, hj with | 0, _, 0, _ => trivial | 1, _, 0, _ => trivial | 2, _, 0, _ => trivial )
 ·intro hp g; subst hz; exact ⟨rfl, c_A R hp g⟩
 ·subst hg1; exact opOk_litB (n := 1) (es := 3) (by kernel_rfl) (by exact ⟨⟨⟨⟨trivial, trivial⟩, trivial⟩, trivial⟩, trivial⟩) rfl rfl (fun i hi j hj => match i, hi, j, hj with | 0, _, 0, _ => (by kernel_rfl) | 0, _, 1, _ => (by kernel_rfl) | 0, _, 2, _ => (by kernel_rfl) ) (fun i hi j hj => match i, hi, j, hj with | 0, _, 0, _ => trivial | 0, _, 1, _ => trivial | 0, _, 2, _ => trivial )
 ·intro hp g; subst hz; exact ⟨rfl, c_A R hp g⟩
 ·subst hg2; exact opOk_litB (n := 1) (es := 3) (by kernel_rfl) (by exact ⟨⟨⟨⟨trivial, trivial⟩, trivial⟩, trivial⟩, trivial⟩) rfl rfl (fun i hi j hj => match i, hi, j, hj with | 0, _, 0, _ => (by kernel_rfl) | 0, _, 1, _ => (by kernel_rfl) | 0, _, 2, _ => (by kernel_rfl) ) (fun i hi j hj => match i, hi, j, hj with | 0, _, 0, _ => trivial | 0, _, 1, _ => trivial | 0, _, 2, _ => trivial )
 ·intro hp g; subst hz; exact ⟨rfl, c_A R hp g⟩
 ·subst hg1; exact opOk_litB (n := 1) (es := 3) (by kernel_rfl) (by exact ⟨⟨⟨⟨trivial, trivial⟩, trivial⟩, trivial⟩, trivial⟩) rfl rfl (fun i hi j hj => match i, hi, j, hj with | 0, _, 0, _ => (by kernel_rfl) | 0, _, 1, _ => (by kernel_rfl) | 0, _, 2, _ => (by kernel_rfl) ) (fun i hi j hj => match i, hi, j, hj with | 0, _, 0, _ => trivial | 0, _, 1, _ => trivial | 0, _, 2, _ => trivial )
 ·subst hi2; exact opOk_litB (n := 3) (es := 1) (by kernel_rfl) (by exact ⟨trivial, ⟨trivial, ⟨trivial, trivial⟩⟩⟩) rfl rfl (fun i hi j hj => match i, hi, j, hj with | 0, _, 0, _ => (by kernel_rfl) | 1, _, 0, _ => (by kernel_rfl) | 2, _, 0, _ => (by kernel_rfl) ) (fun i hi j hj => match i, hi, j, hj with | 0, _, 0, _ => trivial | 1, _, 0, _ => trivial | 2, _, 0, _ => trivial )
 ·rw [f1, f2, f3, f4] at c1
  simp at c1
 ·intro _; subst hi3; exact opOk_litB (n := 3) (es := 1) (by kernel_rfl) (by exact ⟨trivial, ⟨trivial, ⟨trivial, trivial⟩⟩⟩) rfl rfl (fun i hi j hj => match i, hi, j, hj with | 0, _, 0, _ => (by kernel_rfl) | 1, _, 0, _ => (by kernel_rfl) | 2, _, 0, _ => (by kernel_rfl) ) (fun i hi j hj => match i, hi, j, hj with | 0, _, 0, _ => trivial | 1, _, 0, _ => trivial | 2, _, 0, _ => trivial )
 ·intro _; subst hk1; exact opOk_litB (n := 4) (es := 4) (by kernel_rfl) (by exact ⟨⟨⟨⟨⟨trivial, trivial⟩, trivial⟩, trivial⟩, trivial⟩, ⟨⟨⟨⟨⟨trivial, trivial⟩, trivial⟩, trivial⟩, trivial⟩, ⟨⟨⟨⟨⟨trivial, trivial⟩, trivial⟩, trivial⟩, trivial⟩, ⟨⟨⟨⟨⟨trivial, trivial⟩, trivial⟩, trivial⟩, trivial⟩, trivial⟩⟩⟩⟩) rfl rfl (fun i hi j hj => match i, hi, j, hj with | 0, _, 0, _ => (by kernel_rfl) | 0, _, 1, _ => (by kernel_rfl) | 0, _, 2, _ => (by kernel_rfl) | 0, _, 3, _ => (by kernel_rfl) | 1, _, 0, _ => (by kernel_rfl) | 1, _, 1, _ => (by kernel_rfl) | 1, _, 2, _ => (by kernel_rfl) | 1, _, 3, _ => (by kernel_rfl) | 2, _, 0, _ => (by kernel_rfl) | 2, _, 1, _ => (by kernel_rfl) | 2, _, 2, _ => (by kernel_rfl) | 2, _, 3, _ => (by kernel_rfl) | 3, _, 0, _ => (by kernel_rfl) | 3, _, 1, _ => (by kernel_rfl) | 3, _, 2, _ => (by kernel_rfl) | 3, _, 3, _ => (by kernel_rfl) ) (fun i hi j hj => match i, hi, j, hj with | 0, _, 0, _ => trivial | 0, _, 1, _ => trivial | 0, _, 2, _ => trivial | 0, _, 3, _ => trivial | 1, _, 0, _ => trivial | 1, _, 1, _ => trivial | 1, _, 2, _ => trivial | 1, _, 3, _ => trivial | 2, _, 0, _ => trivial | 2, _, 1, _ => trivial | 2, _, 2, _ => trivial | 2, _, 3, _ => trivial | 3, _, 0, _ => trivial | 3, _, 1, _ => trivial | 3, _, 2, _ => trivial | 3, _, 3, _ => trivial )
 ·intro _; subst hi3; exact opOk_litB (n := 3) (es := 1) (by kernel_rfl) (by exact ⟨trivial, ⟨trivial, ⟨trivial, trivial⟩⟩⟩) rfl rfl (fun i hi j hj => match i, hi, j, hj with | 0, _, 0, _ => (by kernel_rfl) | 1, _, 0, _ => (by kernel_rfl) | 2, _, 0, _ => (by kernel_rfl) ) (fun i hi j hj => match i, hi, j, hj with | 0, _, 0, _ => trivial | 1, _, 0, _ => trivial | 2, _, 0, _ => trivial )
 ·refine (retQ_le (retQ_same' _ _ rfl trivial rfl rfl rfl) (Le.of_eq ?_))
  show (AV.bool (bif bif bif bif bif (faultR z g1.l i1.l).fst == 3 then (faultR z g1.l i1.l).snd.fst == 2 else false then decide ((bestR z g1.l).fst = i3.l) else false then decide ((coreR z g2.l).fst = k1.l) else false then decide ((nearR z g1.l i2.l).fst = i3.l) else false then (nearR z g1.l i2.l).snd.fst == 1 else false)) = _
  rw [f1, f2, f3, f4, hi3, hk1]
  rfl
end Go.Avm.Pack
namespace Go.Avm.Pack
open Go Go.Avm Go.Proofs
open Go.IntKind (i64 u64)
open Go.Avm.AV (int bool any fz fp sl ow ref fn ifc val agg tup)
open Go.Avm.AObj (cells dead)
open Go.Avm.Oc (ret)
set_option maxRecDepth 4000
theorem small_of {x : Ix} {most : Nat} (h : smallB x most = true) : small x ∧ smallR x := by
 have h := smallB_iff.1 h
 have hd : ∀ i, x.l.length ≤ i → x.l.getD i default = default := fun i hi => by simp [List.getD, List.getElem?_eq_none hi]
 refine ⟨⟨by omega, fun i => ?_⟩, fun i k => ?_⟩
 ·rcases Nat.lt_or_ge i x.l.length with hi | hi
  ·have := (h.2 i hi).1; omega
  ·rw [hd i hi]; exact (by decide : (default : KL Rel).l.length < 1000000)
 ·rcases Nat.lt_or_ge i x.l.length with hi | hi
  ·rcases Nat.lt_or_ge k (x.l.getD i default).l.length with hk | hk
   ·have := (h.2 i hi).2 k hk; omega
   ·have : (x.l.getD i default).l.getD k default = default := by rw [List.getD_eq_getElem?_getD, List.getElem?_eq_none hk]; rfl
    rw [this]; decide
  ·rw [hd i hi]
   have : (default : KL Rel).l.getD k default = default := by rfl
   rw [this]; decide
end Go.Avm.Pack
namespace Go.Avm.Pack
open Go Go.Avm Go.Proofs
open Go.IntKind (i64 u64)
open Go.Avm.AV (int bool any fz fp sl ow ref fn ifc val agg tup)
open Go.Avm.AObj (cells dead)
open Go.Avm.Oc (ret)
set_option maxRecDepth 4000

theorem rea_rng : Rea Tryd.prog 37 3 (fun _ : Rng => True) rngC :=
 Rea.map (rd_struct Tryd.underlying37 (by kernel_rfl) (rdF_cons rfl (by kernel_rfl) (rd_int Tryd.underlying3) (rdF_cons rfl (by kernel_rfl) (rd_int Tryd.underlying3) (rdF_cons rfl (by kernel_rfl) (rd_int Tryd.underlying3) rdF_nil))))
  (fun x : Int × Int × Int × Unit => ⟨x.1, x.2.1, x.2.2.1⟩) (fun _ _ => trivial) (fun x j hj => match j, hj with | 0, _ => rfl | 1, _ => rfl | 2, _ => rfl)
def klOf {α : Type} (x : Fz × List α) : KL α := ⟨x.2, x.1⟩
theorem rea_rngs : Rea Tryd.prog 34 1 (fun _ : KL Rng => True) (fun x _ => encR x) :=
 Rea.map (rd_slice Tryd.underlying34 (by kernel_rfl) (by omega) rea_rng) klOf (fun _ _ => trivial) (fun x j hj => rfl)
theorem rea_rel : Rea Tryd.prog 45 2 (fun _ : Rel => True) relC := by
 have h := rd_struct (n := 2) Tryd.underlying45 (by kernel_rfl) (rdF_cons rfl (m := 1) (by kernel_rfl) rea_rngs (rdF_cons rfl (m := 1) (by kernel_rfl) rea_rngs rdF_nil))
 exact h.map (fun x => ⟨x.1, x.2.1⟩) (fun _ _ => trivial) (fun x j hj => match j, hj with | 0, _ => rfl | 1, _ => rfl)
theorem rea_rels : Rea Tryd.prog 46 1 (fun _ : KL Rel => True) (fun x _ => encRels x) :=
 Rea.map (rd_slice Tryd.underlying46 (by kernel_rfl) (by omega) rea_rel) klOf (fun _ _ => trivial) (fun x j hj => rfl)
theorem rea_packs : Rea Tryd.prog 22 1 (fun _ : Ix => True) (fun x _ => encPacks x) :=
 Rea.map (rd_slice Tryd.underlying22 (by kernel_rfl) (by omega) rea_rels) klOf (fun _ _ => trivial) (fun x j hj => rfl)
theorem rea_ix : Rea Tryd.prog 24 1 (fun _ : Ix => True) (fun x => nth [encPacks x]) := by
 have h := rd_struct (n := 1) Tryd.underlying24 (by kernel_rfl) (rdF_cons rfl (m := 1) (by kernel_rfl) rea_packs rdF_nil)
 exact h.map (fun x => x.1) (fun _ _ => trivial) (fun x j hj => match j, hj with | 0, _ => rfl)
theorem arg_ix : Arg Tryd.prog 24 (fun _ : Ix => True) encIx := arg_struct Tryd.underlying24 rea_ix
theorem arg_rngs : Arg Tryd.prog 34 (fun _ : KL Rng => True) encR := arg_slice Tryd.underlying34 rea_rngs
end Go.Avm.Pack
namespace Go.Avm.Pack
open Go Go.Avm Go.Proofs
open Go.IntKind (i64 u64)
open Go.Avm.AV (int bool any fz fp sl ow ref fn ifc val agg tup)
open Go.Avm.AObj (cells dead)
open Go.Avm.Oc (ret)
set_option maxRecDepth 4000
theorem bestR_eq {x : Ix} {gl : List Rng} (hck : checkB x gl = true) : bestR x gl = rbestR x gl := by
 unfold bestR rbestR
 rw [hck, best_eq (check_parts hck).1 (check_goals hck)]
 rfl
end Go.Avm.Pack
namespace Go.Avm.Pack
open Go Go.Avm Go.Proofs
open Go.IntKind (i64 u64)
open Go.Avm.AV (int bool any fz fp sl ow ref fn ifc val agg tup)
open Go.Avm.AObj (cells dead)
open Go.Avm.Oc (ret)
set_option maxRecDepth 4000

def inL (x : Ix) (pl : List Int) : Prop := ∀ i, i < pl.length → -1 ≤ pl.getD i 0 ∧ pl.getD i 0 < ((x.l.getD i default).l.length : Int)
structure ChosenH {β : Type} (x : Ix) (R : Res) (G : β → R.σ) (I : β → Prop) (f : β → List Int → Bool × β) (u : Value) : Prop where
 h : ∀ b pl, I b → pl.length = x.l.length → inL x pl → ∀ hpo, VDoes Tryd.prog R u [encI ⟨pl, .may⟩] hpo (G b) (.ret (.bool (f b pl).1)) hpo (G (f b pl).2)
 fI : ∀ b pl, I b → pl.length = x.l.length → inL x pl → I (f b pl).2
theorem ChosenH.lift {β : Type} {x : Ix} {R : Res} {G : β → R.σ} {I : β → Prop} {f : β → List Int → Bool × β} {u : Value} (h : ChosenH x R G I f u) (FM : Mem) (ρ ρ1 : Plc) (q : List AObj) :
  ChosenH x (absorbS R FM ρ ρ1) (fun b => (G b, q)) I f u :=
 ⟨fun b pl h1 h2 h3 hpo => vdoes_liftS (args := [encI ⟨pl, .may⟩]) ⟨trivial, trivial⟩ (show ocBelow (.ret (.bool _)) from trivial) (h.h b pl h1 h2 h3 []) hpo, h.fI⟩
end Go.Avm.Pack
namespace Go.Avm.Pack
open Go Go.Avm Go.Proofs
open Go.IntKind (i64 u64)
open Go.Avm.AV (int bool any fz fp sl ow ref fn ifc val agg tup)
open Go.Avm.AObj (cells dead)
open Go.Avm.Oc (ret)
set_option maxRecDepth 4000
theorem c_right (R : Res) (x : Ix) (gl : KL Rng) (l : KL Int) (hp : List AObj) (g : R.σ) (hs : small x) (hg : gl.l.length < 1000000) : Does Tryd.prog R 31 [encIx x, encR gl, encI l] hp g (.ret (.tup 2 (nth [.bool ((faultR x gl.l l.l).1 == 0), .bool ((faultR x gl.l l.l).2.2 == 0)]))) hp g := by
 refine does_any' (fun R g => ?_) (by exact ⟨⟨trivial, trivial⟩, ⟨trivial, ⟨trivial, trivial⟩⟩⟩) R hp g
 refine spec_of_wp (nt := 23) (rs := [.tmp 6, .tmp 7]) (k0 := 0) (by kernel_rfl) (by kernel_rfl) (by kernel_rfl) rfl ?_
 refine vcQ [] (lkL [(0, [1, 2, 3]), (1, [8, 10]), (2, [6, 7])]) (lkL [(1, [(3, ROrc.pcall (tup 3 (nth [int i64 (faultR x gl.l l.l).fst, int i64 (faultR x gl.l l.l).snd.fst, int i64 (faultR x gl.l l.l).snd.snd])))])]) (fun Q => 1 ≤ 1 ∧ (∀ (hp : List AObj) (g : R.σ), true = true ∧ Does Tryd.prog R 15 [encIx x, encR gl, encI l] hp g (ret (tup 3 (nth [int i64 (faultR x gl.l l.l).fst, int i64 (faultR x gl.l l.l).snd.fst, int i64 (faultR x gl.l l.l).snd.snd]))) hp g) ∧ Q AEx.ret (St.mk [(6, AV.bool ((faultR x gl.l l.l).fst == 0)), (7, AV.bool ((faultR x gl.l l.l).snd.snd == 0))] [cells false 1 (nth [encPacks x])] g)) (fun _ => by kernel_rfl) ⟨(by omega), ⟨(fun _ _ => ⟨rfl, (Go.Avm.Pack.c_Fault _ _ _ _ _ _ (by omega) (by omega))⟩), ?_⟩⟩
 refine (retQ_le (retQ_drop _ _ rfl trivial ⟨⟨trivial, trivial⟩, trivial⟩ rfl) (Le.refl _))
def brkL (x : Ix) (gl : List Rng) (c : Clause) (pl : List Int) : Bool := brokenB x gl c (planOf pl x.l.length) x.l.length
end Go.Avm.Pack
namespace Go.Avm.Pack
open Go Go.Avm Go.Proofs
open Go.IntKind (i64 u64)
open Go.Avm.AV (int bool any fz fp sl ow ref fn ifc val agg tup)
open Go.Avm.AObj (cells dead)
open Go.Avm.Oc (ret)
set_option maxRecDepth 4000
def rightB (x : Ix) (gl : List Rng) (pl : List Int) : Bool := (faultR x gl pl).1 == 0
end Go.Avm.Pack
namespace Go.Avm.Pack
open Go Go.Avm Go.Proofs
open Go.IntKind (i64 u64)
open Go.Avm.AV (int bool any fz fp sl ow ref fn ifc val agg tup)
open Go.Avm.AObj (cells dead)
open Go.Avm.Oc (ret)
set_option maxRecDepth 4000

def enumS (x : Ix) : Nat → List Int → List (List Int)
 | 0, pl => [pl]
 | k + 1, pl => (List.range ((x.l.getD (x.l.length - (k + 1)) default).l.length + 1)).flatMap fun j => enumS x k (pl.set (x.l.length - (k + 1)) (itemC (x.l.getD (x.l.length - (k + 1)) default).l.length j))
def isPlan (x : Ix) (q : List Int) : Prop := q.length = x.l.length ∧ ∀ i, i < x.l.length → -1 ≤ q.getD i 0 ∧ q.getD i 0 < ((x.l.getD i default).l.length : Int)
theorem itemC_surj {N : Nat} {v : Int} (h1 : -1 ≤ v) (h2 : v < N) : ∃ j, j < N + 1 ∧ itemC N j = v := by
 by_cases h : v = -1
 ·exact ⟨0, by omega, by rw [h]; rfl⟩
 ·refine ⟨(N - v).toNat, by omega, ?_⟩
  obtain ⟨j, hj⟩ : ∃ j, (N - v).toNat = j + 1 := ⟨(N - v).toNat - 1, by omega⟩
  rw [hj]
  show (N : Int) - (j + 1 : Nat) = v
  omega
theorem enumS_mem {x : Ix} {q : List Int} : ∀ (k m : Nat), m + k = x.l.length → ∀ pl : List Int, pl.length = x.l.length →
  (q ∈ enumS x k pl ↔ q.length = x.l.length ∧ (∀ i, i < m → q.getD i 0 = pl.getD i 0) ∧ ∀ i, m ≤ i → i < x.l.length → -1 ≤ q.getD i 0 ∧ q.getD i 0 < ((x.l.getD i default).l.length : Int))
 | 0, m, hm, pl, hpl => by
   show q ∈ [pl] ↔ _
   rw [List.mem_singleton]
   constructor
   ·rintro rfl
    exact ⟨hpl, fun _ _ => rfl, fun i h1 h2 => absurd h2 (by omega)⟩
   ·rintro ⟨h1, h2, _⟩
    exact ext_getD 0 (by rw [h1, hpl]) (fun j hj => h2 j (by omega))
 | k + 1, m, hm, pl, hpl => by
   have em : x.l.length - (k + 1) = m := by omega
   unfold enumS
   rw [em, List.mem_flatMap]
   constructor
   ·rintro ⟨j, hj, hq⟩
    have hj : j < (x.l.getD m default).l.length + 1 := by simpa using hj
    obtain ⟨h1, h2, h3⟩ := (enumS_mem k (m + 1) (by omega) _ (by simpa using hpl)).1 hq
    refine ⟨h1, fun i hi => ?_, fun i hi1 hi2 => ?_⟩
    ·rw [h2 i (by omega), set_getD (by omega), if_neg (by omega)]
    ·rcases Nat.lt_or_ge m i with h | h
     ·exact h3 i (by omega) hi2
     ·have : i = m := by omega
      subst this
      rw [h2 i (by omega), set_getD (by omega), if_pos rfl]
      exact itemC_in hj
   ·rintro ⟨h1, h2, h3⟩
    obtain ⟨a, b⟩ := h3 m (Nat.le_refl _) (by omega)
    obtain ⟨j, hj, hv⟩ := itemC_surj a b
    refine ⟨j, by simpa using hj, (enumS_mem k (m + 1) (by omega) _ (by simpa using hpl)).2 ⟨h1, fun i hi => ?_, fun i hi1 hi2 => h3 i (by omega) hi2⟩⟩
    rw [set_getD (by omega)]
    by_cases he : i = m
    ·rw [if_pos he, hv, he]
    ·rw [if_neg he, h2 i (by omega)]
def plansL (x : Ix) : List (List Int) := enumS x x.l.length (planL (fun _ => -1) x.l.length)
theorem plansL_mem {x : Ix} {q : List Int} : q ∈ plansL x ↔ isPlan x q := by
 unfold plansL
 rw [enumS_mem x.l.length 0 (by omega) _ (planL_len _ _)]
 exact ⟨fun h => ⟨h.1, fun i hi => h.2.2 i (Nat.zero_le _) hi⟩, fun h => ⟨h.1, fun i hi => absurd hi (by omega), fun i _ hi => h.2 i hi⟩⟩
theorem broken_mono {x : Ix} {gl : List Rng} {c : Clause} {p : Nat → Int} {m n : Nat} (hmn : m ≤ n) (h : brokenB x gl c p m = true) : brokenB x gl c p n = true := by
 unfold brokenB at h ⊢
 have key : ∀ (a : Int) (q : Bool), (decide (a < (m : Int)) && q) = true → (decide (a < (n : Int)) && q) = true := fun a q h => by
  simp only [Bool.and_eq_true, decide_eq_true_eq] at h ⊢
  exact ⟨by omega, h.2⟩
 split
 ·rename_i h1
  rw [if_pos h1] at h
  exact key _ _ h
 ·rename_i h1
  rw [if_neg h1] at h
  by_cases h2 : c.pack ≥ m ∨ p c.pack.toNat ≠ c.rel
  ·rw [if_pos h2] at h; cases h
  ·rw [if_neg h2] at h
   rw [if_neg (fun h3 => h2 (h3.imp (fun h => by omega) id))]
   split
   ·rename_i h3
    rw [if_pos h3] at h
    exact key _ _ h
   ·rename_i h3
    rw [if_neg h3] at h
    exact key _ _ h
theorem brk_mono {x : Ix} {gl : List Rng} {l : List Clause} (hx : formedB x = true) (hgl : ∀ r ∈ gl, 0 ≤ r.pack ∧ r.pack < x.l.length) (hl : ∀ c ∈ l, thereC x gl c) {p q : Nat → Int} {m n : Nat} (hmn : m ≤ n) (hpq : ∀ j, j < m → p j = q j) (h : brkB x gl l p m = true) : brkB x gl l q n = true := by
 unfold brkB at *
 rw [List.any_eq_true] at *
 obtain ⟨c, hc, hb⟩ := h
 rw [broken_congr hx hgl (hl c hc) hpq] at hb
 exact ⟨c, hc, broken_mono hmn hb⟩
def okP (x : Ix) (gl : List Rng) (l : List Clause) (right : Bool) (q : List Int) : Bool := !(brkB x gl l (planOf q x.l.length) x.l.length) && (!right || (faultOf x gl (planOf q x.l.length)).1 == 0)
def stepO (x : Ix) (gl : List Rng) (l : List Clause) (right : Bool) (hv : List Int) (s : List Int × Int) (q : List Int) : List Int × Int :=
 if okP x gl l right q && (Nat.beq s.1.length 0 || decide ((diffN q hv : Int) < s.2)) then (q, (diffN q hv : Int)) else s
def InvO (hv : List Int) (s : List Int × Int) : Prop := hv = [] → s.1 ≠ [] → s.2 ≤ 0
theorem diffN_nil (q : List Int) : diffN q [] = 0 := by
 unfold diffN
 simp [cntN]
theorem stepO_inv {x : Ix} {gl : List Rng} {l : List Clause} {right : Bool} {hv : List Int} {s : List Int × Int} {q : List Int} (h : InvO hv s) : InvO hv (stepO x gl l right hv s q) := by
 unfold stepO
 split
 ·intro e _
  show (diffN q hv : Int) ≤ 0
  rw [e, diffN_nil]
  exact Int.le_refl _
 ·exact h
theorem foldl_inv' {α β : Type} {P : β → Prop} {f : β → α → β} : ∀ (l : List α) (b : β), (∀ b a, a ∈ l → P b → P (f b a)) → P b → P (l.foldl f b)
 | [], _, _, hb => hb
 | a :: r, b, h, hb => foldl_inv' r (f b a) (fun b c hc hb => h b c (by simp [hc]) hb) (h b a (by simp) hb)
theorem foldl_same {α β : Type} {f : β → α → β} : ∀ (l : List α) (b : β), (∀ a ∈ l, f b a = b) → l.foldl f b = b
 | [], _, _ => rfl
 | a :: r, b, h => by
   show r.foldl f (f b a) = b
   rw [h a (by simp)]
   exact foldl_same r b (fun c hc => h c (by simp [hc]))
theorem foldl_congr' {α β : Type} {P : β → Prop} {f g : β → α → β} : ∀ (l : List α) (b : β), (∀ b a, a ∈ l → P b → f b a = g b a ∧ P (g b a)) → P b → l.foldl f b = l.foldl g b
 | [], _, _, _ => rfl
 | a :: r, b, h, hb => by
   show r.foldl f (f b a) = r.foldl g (g b a)
   obtain ⟨h1, h2⟩ := h b a (by simp) hb
   rw [h1]
   exact foldl_congr' r _ (fun b c hc hb => h b c (by simp [hc]) hb) h2
theorem from_fold {x : Ix} {gl : List Rng} {l : List Clause} {right : Bool} {hv : List Int} (hx : formedB x = true) (hgl : ∀ r ∈ gl, 0 ≤ r.pack ∧ r.pack < x.l.length) (hl : ∀ c ∈ l, thereC x gl c) : ∀ (k m : Nat), m + k = x.l.length → ∀ (s : List Int × Int) (pl : List Int), pl.length = x.l.length → InvO hv s →
  fromR x gl l right hv k s pl = (enumS x k pl).foldl (stepO x gl l right hv) s
 | 0, m, hm, s, pl, hpl, hs => by
   show _ = stepO x gl l right hv s pl
   unfold fromR stepO okP
   cases h1 : brkB x gl l (planOf pl x.l.length) x.l.length with
   | true => rfl
   | false =>
     cases right with
     | false => simp
     | true =>
       cases h2 : ((faultOf x gl (planOf pl x.l.length)).1 == 0) <;> simp
 | k + 1, m, hm, s, pl, hpl, hs => by
   have em : x.l.length - (k + 1) = m := by omega
   obtain ⟨N, hN⟩ : ∃ N, (x.l.getD m default).l.length = N := ⟨_, rfl⟩
   cases hb : brkB x gl l (planOf pl x.l.length) m with
   | true =>
     have e : fromR x gl l right hv (k + 1) s pl = s := by unfold fromR; rw [em, hb]; rfl
     rw [e, foldl_same]
     intro q hq
     obtain ⟨h1, h2, _⟩ := (enumS_mem (k + 1) m hm pl hpl).1 hq
     have : brkB x gl l (planOf q x.l.length) x.l.length = true := brk_mono hx hgl hl (show m ≤ x.l.length by omega) (fun j hj => by rw [planOf_lt (by omega), planOf_lt (by omega), h2 j hj]) hb
     unfold stepO okP
     rw [this]
     rfl
   | false =>
     rw [fromR_succ em hN hb]
     unfold enumS runR
     rw [em, hN, List.foldl_flatMap]
     refine foldl_congr' (P := InvO hv) _ s (fun s j hj hs => ?_) hs
     have hj : j < N + 1 := by simpa using hj
     refine ⟨?_, foldl_inv' _ _ (fun s q _ h => stepO_inv h) hs⟩
     unfold stepR
     cases hg : grdB hv s with
     | true =>
       simp only [if_true]
       exact from_fold hx hgl hl k (m + 1) (by omega) s _ (by simpa using hpl) hs
     | false =>
       simp only [Bool.false_eq_true, if_false]
       rw [foldl_same]
       intro q _
       unfold grdB at hg
       simp only [Bool.or_eq_false_iff, Bool.not_eq_false', Nat.beq_eq] at hg
       have hhv : hv = [] := List.eq_nil_of_length_eq_zero hg.2
       have hs1 : s.1 ≠ [] := fun e => by have := hg.1; rw [e] at this; cases this
       have := hs hhv hs1
       unfold stepO
       rw [hg.1, hhv, diffN_nil, decide_eq_false (by show ¬ ((0 : Nat) : Int) < s.2; omega)]
       simp
theorem search_fold {x : Ix} {gl : List Rng} {l : List Clause} {right : Bool} {hv : List Int} (hx : formedB x = true) (hgl : ∀ r ∈ gl, 0 ≤ r.pack ∧ r.pack < x.l.length) (hl : ∀ c ∈ l, thereC x gl c) : searchR x gl l right hv = (plansL x).foldl (stepO x gl l right hv) ([], 0) :=
 from_fold hx hgl hl x.l.length 0 (by omega) _ _ (planL_len _ _) (fun _ _ => Int.le_refl _)
end Go.Avm.Pack
namespace Go.Avm.Pack
open Go Go.Avm Go.Proofs
open Go.IntKind (i64 u64)
open Go.Avm.AV (int bool any fz fp sl ow ref fn ifc val agg tup)
open Go.Avm.AObj (cells dead)
open Go.Avm.Oc (ret)
set_option maxRecDepth 4000

theorem stepO_nil_found {x : Ix} {gl : List Rng} {l : List Clause} {right : Bool} {s : List Int × Int} (h1 : s.1 ≠ []) (h2 : s.2 ≤ 0) (q : List Int) : stepO x gl l right [] s q = s := by
 unfold stepO
 rw [diffN_nil, decide_eq_false (by show ¬ ((0 : Nat) : Int) < s.2; omega)]
 have : Nat.beq s.1.length 0 = false := by
  cases h : s.1 with
  | nil => exact absurd h h1
  | cons a r => rfl
 rw [this]
 simp
theorem fold_first {x : Ix} {gl : List Rng} {l : List Clause} {right : Bool} : ∀ (E : List (List Int)) (s : Int), (∀ q ∈ E, q ≠ []) → (E.foldl (stepO x gl l right []) ([], s)).1 = (E.find? (okP x gl l right)).getD []
 | [], _, _ => rfl
 | q :: E, s, h => by
   show (E.foldl (stepO x gl l right []) (stepO x gl l right [] ([], s) q)).1 = _
   rw [List.find?_cons]
   cases hq : okP x gl l right q with
   | false =>
     have e : stepO x gl l right [] ([], s) q = ([], s) := by unfold stepO; rw [hq]; rfl
     rw [e]
     exact fold_first E s (fun q hq => h q (by simp [hq]))
   | true =>
     have e : stepO x gl l right [] ([], s) q = (q, 0) := by unfold stepO; rw [hq, diffN_nil]; rfl
     rw [e, foldl_same E _ (fun a _ => stepO_nil_found (h q (by simp)) (Int.le_refl _) a)]
     rfl
theorem plan_ne {x : Ix} (hx : formedB x = true) {q : List Int} (h : isPlan x q) : q ≠ [] := fun e => by
 have h1 := (formed_le hx).1
 have h2 := h.1
 rw [e] at h2
 simp at h2
 omega
theorem search_first {x : Ix} {gl : List Rng} {l : List Clause} {right : Bool} (hx : formedB x = true) (hgl : ∀ r ∈ gl, 0 ≤ r.pack ∧ r.pack < x.l.length) (hl : ∀ c ∈ l, thereC x gl c) : (searchR x gl l right []).1 = ((plansL x).find? (okP x gl l right)).getD [] := by
 rw [search_fold hx hgl hl]
 exact fold_first _ _ (fun q hq => plan_ne hx (plansL_mem.1 hq))
theorem search_none {x : Ix} {gl : List Rng} {l : List Clause} {right : Bool} (hx : formedB x = true) (hgl : ∀ r ∈ gl, 0 ≤ r.pack ∧ r.pack < x.l.length) (hl : ∀ c ∈ l, thereC x gl c) : (searchR x gl l right []).1 = [] ↔ ∀ q, isPlan x q → okP x gl l right q = false := by
 rw [search_first hx hgl hl]
 cases h : (plansL x).find? (okP x gl l right) with
 | none =>
   rw [List.find?_eq_none] at h
   simp only [Option.getD_none, true_iff]
   intro q hq
   have := h q (plansL_mem.2 hq)
   simpa using this
 | some q =>
   have hq := List.find?_some h
   have hm := plansL_mem.1 (List.mem_of_find?_eq_some h)
   simp only [Option.getD_some]
   constructor
   ·intro e; exact absurd e (plan_ne hx hm)
   ·intro e; rw [e q hm] at hq; cases hq
theorem kept_iff {x : Ix} {gl : List Rng} {l : List Clause} (hx : formedB x = true) (hgl : ∀ r ∈ gl, 0 ≤ r.pack ∧ r.pack < x.l.length) (hl : ∀ c ∈ l, thereC x gl c) : rkeptB x gl l = true ↔ ∃ q, isPlan x q ∧ ∀ c ∈ l, brkL x gl c q = false := by
 have h := search_none (right := false) hx hgl hl
 have okq : ∀ q, okP x gl l false q = true ↔ ∀ c ∈ l, brkL x gl c q = false := fun q => by
  unfold okP brkB brkL
  simp
 unfold rkeptB
 constructor
 ·intro hk
  apply Classical.byContradiction
  intro hno
  have : (searchR x gl l false []).1 = [] := h.2 (fun q hq => by
   cases ho : okP x gl l false q with
   | false => rfl
   | true => exact absurd ⟨q, hq, (okq q).1 ho⟩ hno)
  rw [this] at hk
  cases hk
 ·rintro ⟨q, hq, hc⟩
  cases he : Nat.beq (searchR x gl l false []).1.length 0 with
  | false => rfl
  | true =>
    have e : (searchR x gl l false []).1 = [] := List.eq_nil_of_length_eq_zero (Nat.eq_of_beq_eq_true he)
    have := h.1 e q hq
    rw [(okq q).2 hc] at this
    cases this
theorem brk_all {x : Ix} {gl : List Rng} {l : List Clause} {q : List Int} : brkB x gl l (planOf q x.l.length) x.l.length = l.any fun c => brkL x gl c q := rfl
theorem isPlan_planned {x : Ix} {q : List Int} : plannedB x q = true ↔ isPlan x q := plannedB_iff
theorem right_eq {x : Ix} {gl : List Rng} {q : List Int} (hc : checkB x gl = true) (hq : isPlan x q) : rightB x gl q = ((faultOf x gl (planOf q x.l.length)).1 == 0) := by
 unfold rightB faultR
 rw [hc, isPlan_planned.2 hq]
 rfl

end Go.Avm.Pack
namespace Go.Avm.Pack
open Go Go.Avm Go.Proofs
open Go.IntKind (i64 u64)
open Go.Avm.AV (int bool any fz fp sl ow ref fn ifc val agg tup)
open Go.Avm.AObj (cells dead)
open Go.Avm.Oc (ret)
set_option maxRecDepth 4000

theorem fstN_none_iff {n : Nat} {q : Nat → Bool} : fstN n q = none ↔ ∀ j, j < n → q j = false := by
 unfold fstN
 rw [List.find?_eq_none]
 constructor
 ·intro h j hj
  have := h j (List.mem_range.2 hj)
  simpa using this
 ·intro h j hj
  rw [h j (List.mem_range.1 hj)]
  simp
theorem fault_zero {x : Ix} {gl : List Rng} {p : Nat → Int} : (faultOf x gl p).1 = 0 ↔ (∀ j, j < gl.length → metB p (gl.getD j default) = true) ∧ ∀ a, a < 3 → ∀ i, i < x.l.length → badB x gl p a i = false := by
 constructor
 ·intro h
  unfold faultOf lookR at h
  cases h0 : fstN gl.length (fun j => !(metB p (gl.getD j default))) with
  | some j => rw [h0] at h; exact absurd h (by decide : ¬ (1 : Int) = 0)
  | none =>
    rw [h0] at h
    simp only at h
    cases h1 : fstN x.l.length (badB x gl p 0) with
    | some j => rw [h1] at h; exact absurd h (by decide : ¬ (2 : Int) = 0)
    | none =>
      rw [h1] at h
      simp only at h
      cases h2 : fstN x.l.length (badB x gl p 1) with
      | some j => rw [h2] at h; exact absurd h (by decide : ¬ (3 : Int) = 0)
      | none =>
        rw [h2] at h
        simp only at h
        cases h3 : fstN x.l.length (badB x gl p 2) with
        | some j => rw [h3] at h; exact absurd h (by decide : ¬ (4 : Int) = 0)
        | none =>
          refine ⟨fun j hj => by simpa using fstN_none_iff.1 h0 j hj, fun a ha i hi => ?_⟩
          match a, ha with
          | 0, _ => exact fstN_none_iff.1 h1 i hi
          | 1, _ => exact fstN_none_iff.1 h2 i hi
          | 2, _ => exact fstN_none_iff.1 h3 i hi
 ·rintro ⟨h1, h2⟩
  rw [fault_none (fstN_none_iff.2 (fun j hj => by rw [h1 j hj]; rfl)) h2]
theorem nums_has {c : Clause} {n i : Nat} (h : i < n) : numQ c i ∈ nums c n := List.mem_map.2 ⟨i, List.mem_range.2 h, rfl⟩
theorem mem_goal {x : Ix} {gl : List Rng} {w : Nat} (hw : w < gl.length) : (⟨-1, 0, false, w⟩ : Clause) ∈ clausesOf x gl :=
 List.mem_append_left _ (nums_has (c := ⟨-1, 0, false, 0⟩) hw)
theorem mem_rel {x : Ix} {gl : List Rng} {i k : Nat} (hi : i < x.l.length) (hk : k < (x.l.getD i default).l.length) {c : Clause} (hc : c ∈ relCl i k ((x.l.getD i default).l.getD k default)) : c ∈ clausesOf x gl :=
 List.mem_append_right _ (List.mem_flatMap.2 ⟨i, List.mem_range.2 hi, List.mem_flatMap.2 ⟨k, List.mem_range.2 hk, hc⟩⟩)
theorem mem_need {x : Ix} {gl : List Rng} {i k w : Nat} (hi : i < x.l.length) (hk : k < (x.l.getD i default).l.length) (hw : w < ((x.l.getD i default).l.getD k default).needs.l.length) : (⟨i, k, false, w⟩ : Clause) ∈ clausesOf x gl :=
 mem_rel hi hk (List.mem_append_left _ (nums_has (c := ⟨i, k, false, 0⟩) hw))
theorem mem_bar {x : Ix} {gl : List Rng} {i k w : Nat} (hi : i < x.l.length) (hk : k < (x.l.getD i default).l.length) (hw : w < ((x.l.getD i default).l.getD k default).bars.l.length) : (⟨i, k, true, w⟩ : Clause) ∈ clausesOf x gl :=
 mem_rel hi hk (List.mem_append_right _ (nums_has (c := ⟨i, k, true, 0⟩) hw))
structure KeepsAll (x : Ix) (gl : List Rng) (p : Nat → Int) : Prop where
 goal : ∀ r ∈ gl, metB p r = true
 need : ∀ i, i < x.l.length → p i ≠ -1 → ∀ r ∈ (relOf x p i).needs.l, metB p r = true
 bar : ∀ i, i < x.l.length → p i ≠ -1 → ∀ r ∈ (relOf x p i).bars.l, metB p r = false
theorem mem_getD {α : Type} {l : List α} {a d : α} (h : a ∈ l) : ∃ i, i < l.length ∧ l.getD i d = a := by
 obtain ⟨i, hi, e⟩ := List.getElem_of_mem h
 exact ⟨i, hi, by simp [List.getD, hi, e]⟩
theorem relOf_some {x : Ix} {p : Nat → Int} {i : Nat} (h : p i ≠ -1) : relOf x p i = (x.l.getD i default).l.getD (p i).toNat default := if_neg h
theorem and_dec {r s : Rng} {n : Int} {f : Rng → Bool} (e : s = r) (h : (decide (s.pack < n) && f s) = false) (hr : r.pack < n) : f r = false := by
 subst e
 rw [decide_eq_true hr] at h
 simpa using h
theorem keepsAll_of {x : Ix} {gl : List Rng} {q : List Int} (hck : checkB x gl = true) (hq : isPlan x q) (h : ∀ c ∈ clausesOf x gl, brkL x gl c q = false) : KeepsAll x gl (planOf q x.l.length) := by
 have hx := (check_parts hck).1
 have hgl := check_goals hck
 have hin := planned_inP (isPlan_planned.2 hq)
 have wN := formed_wfN hx hin
 have wB := formed_wfB hx hin
 refine ⟨fun r hr => ?_, fun i hi hp r hr => ?_, fun i hi hp r hr => ?_⟩
 ·obtain ⟨w, hw, e⟩ := mem_getD (d := default) hr
  have hb := h _ (mem_goal (x := x) hw)
  unfold brkL brokenB at hb
  rw [if_pos rfl] at hb
  have := and_dec (f := fun r => !(metB (planOf q x.l.length) r)) e hb (hgl r hr).2
  simpa using this
 ·have hpi := hin i hi
  rw [relOf_some hp] at hr
  obtain ⟨w, hw, e⟩ := mem_getD (d := default) hr
  have hb := h _ (mem_need (gl := gl) hi (show (planOf q x.l.length i).toNat < _ by omega) hw)
  have hwr := (wN i hi r (by rw [relOf_some hp]; exact hr)).2
  unfold brkL brokenB at hb
  rw [if_neg (by simp), if_neg (by simp only [Int.toNat_natCast]; omega), if_neg (by simp)] at hb
  have := and_dec (f := fun r => !(metB (planOf q x.l.length) r)) e hb hwr
  simpa using this
 ·have hpi := hin i hi
  rw [relOf_some hp] at hr
  obtain ⟨w, hw, e⟩ := mem_getD (d := default) hr
  have hb := h _ (mem_bar (gl := gl) hi (show (planOf q x.l.length i).toNat < _ by omega) hw)
  have hwr := (wB i hi r (by rw [relOf_some hp]; exact hr)).2
  unfold brkL brokenB at hb
  rw [if_neg (by simp), if_neg (by simp only [Int.toNat_natCast]; omega), if_pos rfl] at hb
  exact and_dec (f := fun r => metB (planOf q x.l.length) r) e hb hwr
theorem keepsAll_keeps {x : Ix} {gl : List Rng} {p : Nat → Int} (h : KeepsAll x gl p) {c : Clause} (hc : thereC x gl c) : brokenB x gl c p x.l.length = false := by
 unfold brokenB
 rcases hc with ⟨h1, h2, h3⟩ | ⟨h1, h2, h3, h4, h5, h6, h7⟩
 ·rw [if_pos h1, h.goal _ (getD_mem gl default (by omega))]
  simp
 ·rw [if_neg (by omega)]
  split
  ·rfl
  ·rename_i hn
   have hn1 : ¬ c.pack ≥ (x.l.length : Int) := fun h => hn (.inl h)
   have hn2 : p c.pack.toNat = c.rel := Classical.byContradiction fun h => hn (.inr h)
   have hp : p c.pack.toNat ≠ -1 := by omega
   have er : relOf x p c.pack.toNat = (x.l.getD c.pack.toNat default).l.getD c.rel.toNat default := by rw [relOf_some hp, hn2]
   split
   ·rename_i hb
    have hw := h6 hb
    have := h.bar c.pack.toNat (by omega) hp (((x.l.getD c.pack.toNat default).l.getD c.rel.toNat default).bars.l.getD c.which.toNat default) (by rw [er]; exact getD_mem _ _ (by omega))
    rw [this]
    simp
   ·rename_i hb
    have hw := h7 (by simpa using hb)
    have := h.need c.pack.toNat (by omega) hp (((x.l.getD c.pack.toNat default).l.getD c.rel.toNat default).needs.l.getD c.which.toNat default) (by rw [er]; exact getD_mem _ _ (by omega))
    rw [this]
    simp
theorem fault_keeps {x : Ix} {gl : List Rng} {p : Nat → Int} : (faultOf x gl p).1 = 0 ↔ KeepsAll x gl p ∧ ∀ i, i < x.l.length → p i ≠ -1 → (neededN x gl p).testBit i = true := by
 rw [fault_zero]
 constructor
 ·rintro ⟨h1, h2⟩
  refine ⟨⟨fun r hr => ?_, fun i hi hp r hr => ?_, fun i hi hp r hr => ?_⟩, fun i hi hp => ?_⟩
  ·obtain ⟨w, hw, e⟩ := mem_getD (d := default) hr
   rw [← e]; exact h1 w hw
  ·have := h2 0 (by omega) i hi
   rw [bad0 hp] at this
   simp only [Bool.not_eq_false'] at this
   exact List.all_eq_true.1 this r hr
  ·have := h2 1 (by omega) i hi
   rw [bad1 hp] at this
   cases hm : metB p r with
   | false => rfl
   | true => rw [List.any_eq_false] at this; exact absurd hm (this r hr)
  ·have := h2 2 (by omega) i hi
   rw [bad2 hp] at this
   simpa using this
 ·rintro ⟨h, hn⟩
  refine ⟨fun j hj => h.goal _ (getD_mem _ _ hj), fun a ha i hi => ?_⟩
  by_cases hp : p i = -1
  ·exact bad_neg hp
  ·match a, ha with
   | 0, _ =>
     rw [bad0 hp, List.all_eq_true.2 (fun r hr => h.need i hi hp r hr)]; rfl
   | 1, _ =>
     rw [bad1 hp, List.any_eq_false]
     intro r hr
     rw [h.bar i hi hp r hr]
     simp
   | 2, _ =>
     rw [bad2 hp, hn i hi hp]; rfl
theorem right_keeps {x : Ix} {gl : List Rng} {q : List Int} (hck : checkB x gl = true) (hq : isPlan x q) (h : rightB x gl q = true) : ∀ c ∈ clausesOf x gl, brkL x gl c q = false := by
 rw [right_eq hck hq] at h
 intro c hc
 exact keepsAll_keeps (fault_keeps.1 (by simpa using h)).1 (there_all hc)
def pruneL (x : Ix) (gl : List Rng) (q : List Int) : List Int := (List.range x.l.length).map fun i => if (neededN x gl (planOf q x.l.length)).testBit i then q.getD i 0 else -1
theorem prune_getD {x : Ix} {gl : List Rng} {q : List Int} {i : Nat} (hi : i < x.l.length) : (pruneL x gl q).getD i 0 = if (neededN x gl (planOf q x.l.length)).testBit i then q.getD i 0 else -1 := by
 unfold pruneL
 simp [List.getD, hi]
theorem formed_low {x : Ix} {p : Nat → Int} (hx : formedB x = true) (hin : inP x p) {i : Nat} (hi : i < x.l.length) : (∀ r ∈ (relOf x p i).needs.l, 0 ≤ r.low) ∧ ∀ r ∈ (relOf x p i).bars.l, 0 ≤ r.low := by
 have key : ∀ r, otherB x i r = true → 0 ≤ r.low := fun r h => by
  unfold otherB rangedB at h
  simp only [Bool.and_eq_true, decide_eq_true_eq] at h
  exact h.1.2.2.1
 rcases relOf_cases hx hin hi with e | e
 ·rw [e]
  exact ⟨fun r hr => (by cases hr), fun r hr => (by cases hr)⟩
 ·unfold relB at e
  simp only [Bool.and_eq_true] at e
  exact ⟨fun r hr => key r (List.all_eq_true.1 e.1.2 r hr), fun r hr => key r (List.all_eq_true.1 e.2 r hr)⟩
theorem prune_right {x : Ix} {gl : List Rng} {q : List Int} (hck : checkB x gl = true) (hq : isPlan x q) (h : ∀ c ∈ clausesOf x gl, brkL x gl c q = false) : isPlan x (pruneL x gl q) ∧ rightB x gl (pruneL x gl q) = true := by
 have hx := (check_parts hck).1
 have hgl := check_goals hck
 have h8 := (formed_le hx).2
 have hin := planned_inP (isPlan_planned.2 hq)
 have wN := formed_wfN hx hin
 have wB := formed_wfB hx hin
 have hk := keepsAll_of hck hq h
 obtain ⟨p, hp⟩ : ∃ p, p = planOf q x.l.length := ⟨_, rfl⟩
 rw [← hp] at hin wN wB hk
 have hpq : ∀ i, i < x.l.length → p i = q.getD i 0 := fun i hi => by rw [hp, planOf_lt hi]
 obtain ⟨S, hS⟩ : ∃ S, S = neededN x gl p := ⟨_, rfl⟩
 have hlen : (pruneL x gl q).length = x.l.length := by unfold pruneL; simp
 obtain ⟨p', hp'⟩ : ∃ p', p' = planOf (pruneL x gl q) x.l.length := ⟨_, rfl⟩
 have hv : ∀ i, i < x.l.length → p' i = if S.testBit i then p i else -1 := fun i hi => by
  rw [hp', planOf_lt hi, prune_getD hi, ← hp, ← hS, hpq i hi]
 have hplan : isPlan x (pruneL x gl q) := by
  refine ⟨hlen, fun i hi => ?_⟩
  have := hq.2 i hi
  have hpos : 0 ≤ (x.l.getD i default).l.length := Nat.zero_le _
  rw [prune_getD hi]
  split
  ·exact this
  ·omega
 have hin' : inP x p' := by rw [hp']; exact planned_inP (isPlan_planned.2 hplan)
 have wN' := formed_wfN hx hin'
 have g1 : ∀ r ∈ gl, S.testBit r.pack.toNat = true := by rw [hS]; exact needed_goals h8 wN hgl
 have cl : ∀ j, S.testBit j = true → ∀ r ∈ (relOf x p j).needs.l, S.testBit r.pack.toNat = true := by rw [hS]; exact needed_closed h8 wN hgl
 have same : ∀ i, i < x.l.length → S.testBit i = true → p' i = p i := fun i hi h => by rw [hv i hi, if_pos h]
 have relS : ∀ i, i < x.l.length → S.testBit i = true → relOf x p' i = relOf x p i := fun i hi h => by unfold relOf; rw [same i hi h]
 have nz : ∀ i, i < x.l.length → p' i ≠ -1 → S.testBit i = true ∧ p i ≠ -1 := fun i hi h => by
  rw [hv i hi] at h
  split at h
  ·rename_i h1; exact ⟨h1, h⟩
  ·exact absurd rfl h
 have met : ∀ r : Rng, 0 ≤ r.pack → r.pack < x.l.length → S.testBit r.pack.toNat = true → metB p' r = metB p r := fun r h0 h1 hs => by
  unfold metB; rw [same _ (by omega) hs]
 have keeps' : KeepsAll x gl p' := by
  refine ⟨fun r hr => ?_, fun i hi hpi r hr => ?_, fun i hi hpi r hr => ?_⟩
  ·rw [met r (hgl r hr).1 (hgl r hr).2 (g1 r hr)]
   exact hk.goal r hr
  ·obtain ⟨hs, hpn⟩ := nz i hi hpi
   rw [relS i hi hs] at hr
   rw [met r (wN i hi r hr).1 (wN i hi r hr).2 (cl i hs r hr)]
   exact hk.need i hi hpn r hr
  ·obtain ⟨hs, hpn⟩ := nz i hi hpi
   rw [relS i hi hs] at hr
   have hb := hk.bar i hi hpn r hr
   have hw := wB i hi r hr
   cases hsr : S.testBit r.pack.toNat with
   | true => rw [met r hw.1 hw.2 hsr]; exact hb
   | false =>
     have hlow := (formed_low hx hin hi).2 r hr
     unfold metB inR
     rw [hv _ (by omega), hsr]
     simp
     omega
 refine ⟨hplan, ?_⟩
 rw [right_eq hck hplan, ← hp']
 have : (faultOf x gl p').1 = 0 := fault_keeps.2 ⟨keeps', fun i hi hpi => by
  obtain ⟨hs, _⟩ := nz i hi hpi
  have hT := needed_least (x := x) (gl := gl) (p := p) (T := fun b => b < x.l.length ∧ S.testBit b = true ∧ (neededN x gl p').testBit b = true)
   (fun r hr => ⟨by have := hgl r hr; omega, g1 r hr, needed_goals h8 wN' hgl r hr⟩)
   (fun b ⟨hb, hbs, hbn⟩ r hr => ⟨by have := wN b hb r hr; omega, cl b hbs r hr, needed_closed h8 wN' hgl b hbn r (by rw [relS b hb hbs]; exact hr)⟩) i (by rw [← hS]; exact hs)
  exact hT.2.2⟩
 rw [this]; rfl
end Go.Avm.Pack
namespace Go.Avm.Pack
open Go Go.Avm Go.Proofs
open Go.IntKind (i64 u64)
open Go.Avm.AV (int bool any fz fp sl ow ref fn ifc val agg tup)
open Go.Avm.AObj (cells dead)
open Go.Avm.Oc (ret)
set_option maxRecDepth 4000


end Go.Avm.Pack
namespace Go.Avm.Pack
open Go Go.Avm Go.Proofs
open Go.IntKind (i64 u64)
open Go.Avm.AV (int bool any fz fp sl ow ref fn ifc val agg tup)
open Go.Avm.AObj (cells dead)
open Go.Avm.Oc (ret)
set_option maxRecDepth 4000

def someRight (x : Ix) (gl : List Rng) : Bool := rkeptB x gl (clausesOf x gl)
theorem someRight_iff {x : Ix} {gl : List Rng} (hck : checkB x gl = true) : someRight x gl = true ↔ ∃ q, isPlan x q ∧ rightB x gl q = true := by
 unfold someRight
 rw [kept_iff (check_parts hck).1 (check_goals hck) (fun c hc => there_all hc)]
 constructor
 ·rintro ⟨q, hq, h⟩
  exact ⟨_, prune_right hck hq h⟩
 ·rintro ⟨q, hq, h⟩
  exact ⟨q, hq, right_keeps hck hq h⟩
theorem best_some {x : Ix} {gl : List Rng} (hck : checkB x gl = true) : (bestR x gl).2 = if someRight x gl then 0 else 5 := by
 have hx := (check_parts hck).1
 have hgl := check_goals hck
 have h := search_none (x := x) (gl := gl) (l := clausesOf x gl) (right := true) hx hgl (fun c hc => there_all hc)
 rw [bestR_eq hck]
 unfold rbestR
 have okq : ∀ q, isPlan x q → okP x gl (clausesOf x gl) true q = rightB x gl q := fun q hq => by
  unfold okP
  rw [right_eq hck hq, brk_all]
  cases hr : ((faultOf x gl (planOf q x.l.length)).1 == 0) with
  | false => simp
  | true =>
    have := right_keeps hck hq (by rw [right_eq hck hq, hr])
    rw [List.any_eq_false.2 (fun c hc => by rw [this c hc]; simp)]
    rfl
 cases hs : someRight x gl with
 | true =>
   obtain ⟨q, hq, hr⟩ := (someRight_iff hck).1 hs
   have : Nat.beq (searchR x gl (clausesOf x gl) true []).1.length 0 = false := by
    cases hb : Nat.beq (searchR x gl (clausesOf x gl) true []).1.length 0 with
    | false => rfl
    | true =>
      have e := List.eq_nil_of_length_eq_zero (Nat.eq_of_beq_eq_true hb)
      have := h.1 e q hq
      rw [okq q hq, hr] at this
      cases this
   rw [this]; rfl
 | false =>
   have : (searchR x gl (clausesOf x gl) true []).1 = [] := h.2 (fun q hq => by
    rw [okq q hq]
    cases hr : rightB x gl q with
    | false => rfl
    | true => rw [(someRight_iff hck).2 ⟨q, hq, hr⟩] at hs; cases hs)
   rw [this]; rfl
end Go.Avm.Pack
namespace Go.Avm.Pack
open Go Go.Avm Go.Proofs
open Go.IntKind (i64 u64)
open Go.Avm.AV (int bool any fz fp sl ow ref fn ifc val agg tup)
open Go.Avm.AObj (cells dead)
open Go.Avm.Oc (ret)
set_option maxRecDepth 4000
end Go.Avm.Pack
namespace Go.Avm.Pack
open Go Go.Avm Go.Proofs
open Go.IntKind (i64 u64)
open Go.Avm.AV (int bool any fz fp sl ow ref fn ifc val agg tup)
open Go.Avm.AObj (cells dead)
open Go.Avm.Oc (ret)
set_option maxRecDepth 4000

def nwV (v w : Int) : Bool := v == -1 || (w != -1 && decide (v > w))
def newerF (a b : List Int) : Nat → Nat → Bool
 | 0, _ => false
 | k + 1, i => if a.getD i 0 == b.getD i 0 then newerF a b k (i + 1) else nwV (a.getD i 0) (b.getD i 0)
def newerB (a b : List Int) : Bool := newerF a b a.length 0
theorem c_newer (R : Res) (a b : KL Int) (hp : List AObj) (g : R.σ) (ha : a.l.length < 1000000) (hab : a.l.length ≤ b.l.length) : Does Tryd.prog R 34 [encI a, encI b] hp g (.ret (.bool (newerB a.l b.l))) hp g := by
 refine does_any' (fun R g => ?_) (by exact ⟨trivial, ⟨trivial, trivial⟩⟩) R hp g
 refine spec_of_wp (nt := 44) (rs := [.tmp 4]) (k0 := 0) (by kernel_rfl) (by kernel_rfl) (by kernel_rfl) rfl ?_
 refine vcQ [] (lkL [(0, [0, 1]), (1, [0, 1, 7, 8])]) (fun _ => []) (fun Q => Wp Tryd.prog R 44 0 Rd.top (bodyOf Tryd.prog 34) [1, 0, 1, 0] (contQ Tryd.prog R 44 0 Rd.top (bodyOf Tryd.prog 34) Q [Kont.blk 0, Kont.seq [1, 1]]) (St.mk [(0, encI a), (1, encI b), (7, int i64 (a.l.length : Int)), (8, int i64 0)] [] g)) (fun _ => by kernel_rfl) (?_)
 refine (wp_loop (by kernel_rfl) (fun (i : Nat) => ⟨[(0, encI a), (1, encI b), (7, int i64 (a.l.length : Int)), (8, .int .i64 (i : Int))], [], g⟩) (fun (i : Nat) => (i ≤ a.l.length ∧ newerB a.l b.l = newerF a.l b.l (a.l.length - i) i)) (fun (i : Nat) => (a.l.length - i)) 0 (to_fr ⟨(Le.refl _), ⟨(Le.refl _), ⟨(Le.refl _), ⟨(Le.of_eq (by kernel_rfl)), trivial⟩⟩⟩⟩ rfl rfl) ?_ (fun i hi => ?_))
 ·exact ⟨Nat.zero_le _, rfl⟩
 ·obtain ⟨h1, h2⟩ := hi
  have e : i < a.l.length → newerB a.l b.l = if a.l.getD i 0 == b.l.getD i 0 then newerF a.l b.l (a.l.length - (i + 1)) (i + 1) else nwV (a.l.getD i 0) (b.l.getD i 0) := fun h => by
   rw [h2, show a.l.length - i = (a.l.length - (i + 1)) + 1 by omega]; rfl
  refine vcQ [] (lkL [(2, [0, 1, 7, 8, 9]), (3, [0, 1, 5, 7, 8]), (4, [0, 1, 5, 7, 8, 19]), (5, [4]), (6, [0, 1, 7, 8])]) (fun _ => []) (fun Q => (fun (u1 : Int) => (fun (u2 : Int) => (fun (u3 : Int) => (fun (u4 : Int) => (fun (u5 : Bool) => (fun (u6 : Int) => (fun (u7 : Bool) => (decide (u2 < u1) = true → u7 = true ∧ (0 ≤ u2 ∧ u2 < u1) ∧ 1 ≤ 1 ∧ (0 ≤ u2 ∧ u2 < u6) ∧ 1 ≤ 1 ∧ ((u3 != u4) = true → u7 = true ∧ (0 ≤ u2 ∧ u2 < u1) ∧ 1 ≤ 1 ∧ ((!u3 == -1) = true → 0 ≤ u2 ∧ u2 < u6) ∧ ((!u3 == -1) = true → 1 ≤ 1) ∧ (u5 = true → 0 ≤ u2 ∧ u2 < u1) ∧ (u5 = true → 1 ≤ 1) ∧ (u5 = true → 0 ≤ u2 ∧ u2 < u6) ∧ (u5 = true → 1 ≤ 1) ∧ Q AEx.ret (St.mk [(4, AV.bool (bif u3 == -1 then true else bif u4 != -1 then decide (u3 > u4) else false))] [] g)) ∧ ((u3 != u4) = false → (-9223372036854775808 ≤ u2 + 1 ∧ u2 + 1 ≤ 9223372036854775807) ∧ Q AEx.normal (St.mk [(0, encI a), (1, encI b), (7, int i64 u1), (8, int i64 (u2 + 1))] [] g))) ∧ (decide (u2 < u1) = false → Q (AEx.exit 0) (St.mk [(0, encI a), (1, encI b), (7, int i64 u1), (8, int i64 u2), (9, AV.bool (decide (u2 < u1)))] [] g))) (Tables.follows Tryd.prog.toTables Departure.mixedOrders)) ((b.l.length : Int))) (!u3 == -1 && u4 != -1)) (b.l.getD i 0)) (a.l.getD i 0)) ((i : Int))) ((a.l.length : Int))) (fun _ => by kernel_rfl) ⟨fun c1 => have c1 : (i : Int) < (a.l.length : Int) := (of_decide_eq_true c1); ⟨(by kernel_rfl), ⟨(by omega), ⟨(by omega), ⟨(by omega), ⟨(by omega), ⟨fun c2 => have c2 : ¬a.l.getD i 0 = b.l.getD i 0 := (bne_iff_ne.mp c2); ⟨(by kernel_rfl), ⟨(by omega), ⟨(by omega), ⟨(by omega), ⟨(by omega), ⟨(by omega), ⟨(by omega), ⟨(by omega), ⟨(by omega), ?_⟩⟩⟩⟩⟩⟩⟩⟩⟩, fun c2 => have c2 : a.l.getD i 0 = b.l.getD i 0 := (bne_eq_false_iff_eq.mp c2); ⟨(by omega), ?_⟩⟩⟩⟩⟩⟩⟩, fun c1 => have c1 : ¬(i : Int) < (a.l.length : Int) := (of_decide_eq_false c1); ?_⟩
  ·refine ⟨_, To.refl _, (retQ_le (retQ_same' _ _ rfl trivial rfl rfl rfl) (Le.of_eq ?_))⟩
   show (AV.bool (bif List.getD a.l i 0 == -1 then true else bif List.getD b.l i 0 != -1 then decide (List.getD a.l i 0 > List.getD b.l i 0) else false)) = _
   congr 1
   rw [e (by omega), if_neg (by simpa using c2)]
   unfold nwV
   cases (a.l.getD i 0 == -1) <;> cases (b.l.getD i 0 != -1) <;> rfl
  ·refine (next_round (i + 1) (to_fr ⟨(Le.refl _), ⟨(Le.refl _), ⟨(Le.refl _), ⟨(Le.of_eq (by kernel_rfl)), trivial⟩⟩⟩⟩ rfl rfl) ?_ ?_)
   ·exact ⟨by omega, by rw [e (by omega), if_pos (by simpa using c2)]⟩
   ·omega
  ·refine ⟨_, To.refl _, vcQ [] (lkL [(7, [4])]) (fun _ => []) (fun Q => Q AEx.ret (St.mk [(4, AV.bool false)] [] g)) (fun _ => by kernel_rfl) (?_)⟩
   refine (retQ_le (retQ_same' _ _ rfl trivial rfl rfl rfl) (Le.of_eq ?_))
   show (AV.bool false) = _
   congr 1
   rw [h2, show a.l.length - i = 0 by omega]; rfl
def encB (x : KL Int) : AV := .fz x.k 1 x.l.length (fun i _ => .int .u8 (x.l.getD i 0))
def drawnV (x : Ix) (by' : List Int) (from' i : Nat) : Int :=
 if 0 < by'.length then (IntKind.i64.wrap (by'.getD ((from' + i) % by'.length) 0)).tmod (((x.l.getD i default).l.length : Int) + 1) - 1 else -1
def drawnL (x : Ix) (by' : List Int) (from' : Nat) : List Int := (List.range x.l.length).map (drawnV x by' from')
theorem drawnL_len (x : Ix) (by' : List Int) (from' : Nat) : (drawnL x by' from').length = x.l.length := by simp [drawnL]
theorem drawnL_getD {x : Ix} {by' : List Int} {from' i : Nat} (h : i < x.l.length) : (drawnL x by' from').getD i 0 = drawnV x by' from' i := by simp [drawnL, List.getD, h]
theorem drawn_plan {x : Ix} {by' : List Int} {from' : Nat} (hb : ∀ v ∈ by', 0 ≤ v ∧ v ≤ 255) : isPlan x (drawnL x by' from') := by
 refine ⟨drawnL_len _ _ _, fun i hi => ?_⟩
 rw [drawnL_getD hi]
 unfold drawnV
 split
 ·rename_i h
  obtain ⟨k, hk⟩ : ∃ k, k = (from' + i) % by'.length := ⟨_, rfl⟩
  rw [← hk]
  have hv : 0 ≤ by'.getD k 0 ∧ by'.getD k 0 ≤ 255 := by
   by_cases hk2 : k < by'.length
   ·exact hb _ (getD_mem _ _ hk2)
   ·rw [show by'.getD k 0 = 0 by simp [List.getD, List.getElem?_eq_none (by omega : by'.length ≤ k)]]
    omega
  have hw : IntKind.i64.wrap (by'.getD k 0) = by'.getD k 0 := by rw [IntKind.wrap_i64]; omega
  rw [hw]
  have h1 := Int.tmod_nonneg (((x.l.getD i default).l.length : Int) + 1) hv.1
  have h2 := Int.tmod_lt_of_pos (by'.getD k 0) (show (0 : Int) < ((x.l.getD i default).l.length : Int) + 1 by omega)
  omega
 ·omega
def drwC (q : Nat → Int) (i : Nat) : Nat → AV := fun j => .int .i64 (if j < i then q j else 0)
theorem drawn_all (R : Res) (x : Ix) (b : KL Int) (from' : Nat) (g : R.σ) (hs : small x) (h1 : 1 ≤ x.l.length) (hf : from' < 1000000) (hb : ∀ v ∈ b.l, 0 ≤ v ∧ v ≤ 255) : Does Tryd.prog R 33 [encIx x, encB b, .int .i64 from'] [] g (.ret (.fz .exa 1 x.l.length (fun i j => drwC (drawnV x b.l from') x.l.length (0 + i * 1 + j)))) [] g := by
 have w1 := hs.1
 have hroom : maxRoom = 140737488355328 := rfl
 have hpl := drawn_plan (x := x) (from' := from') hb
 obtain ⟨q, hq⟩ : ∃ q, q = drawnV x b.l from' := ⟨_, rfl⟩
 have hqb : ∀ i, i < x.l.length → -1 ≤ q i ∧ q i < ((x.l.getD i default).l.length : Int) := fun i hi => by
  have := hpl.2 i hi
  rw [drawnL_getD hi, ← hq] at this
  exact this
 rw [← hq]
 refine spec_of_wp (nt := 48) (rs := [.tmp 6]) (k0 := 0) (by kernel_rfl) (by kernel_rfl) (by kernel_rfl) rfl ?_
 refine vcQ [] (lkL [(0, [1, 2, 3]), (1, [1, 2, 3, 7]), (2, [1, 2, 7, 15, 16, 17])]) (fun _ => []) (fun Q => (fun (u1 : Nat) => 1 ≤ 1 ∧ 0 ≤ (u1 : Int) ∧ (u1 : Int) ≤ (u1 : Int) ∧ (u1 : Int) ≤ 140737488355328 ∧ u1 * 8 ≤ maxRoom ∧ 1 ≤ 1 ∧ Wp Tryd.prog R 48 0 Rd.top (bodyOf Tryd.prog 33) [1, 1, 0, 1, 0] (contQ Tryd.prog R 48 0 Rd.top (bodyOf Tryd.prog 33) Q [Kont.blk 0, Kont.seq [1, 1, 1]]) (St.mk [(1, fz b.2 1 (b.l.length) fun (i x : Nat) => int IntKind.u8 (b.l.getD i 0)), (2, int i64 (from' : Int)), (7, sl 1 0 u1 u1 true 1), (15, encPacks x), (16, int i64 (u1 : Int)), (17, int i64 0)] [cells false 1 (nth [encPacks x]), cells false (u1 * 1) fun (j : Nat) => int i64 0] g)) (x.l.length)) (fun _ => by kernel_rfl) ⟨(by omega), ⟨(by omega), ⟨(by omega), ⟨(by omega), ⟨(by omega), ⟨(by omega), ?_⟩⟩⟩⟩⟩⟩
 refine (wp_loop (by kernel_rfl) (fun (i : Nat) => ⟨[(1, fz b.2 1 (b.l.length) fun (i x : Nat) => int IntKind.u8 (b.l.getD i 0)), (2, int i64 (from' : Int)), (7, sl 1 0 (x.l.length) (x.l.length) true 1), (15, encPacks x), (16, int i64 (x.l.length : Int)), (17, .int .i64 (i : Int))], [.cells false 1 (nth [encPacks x]), .cells false (x.l.length * 1) (drwC q i)], g⟩) (fun (i : Nat) => (i ≤ x.l.length)) (fun (i : Nat) => (x.l.length - i)) 0 (to_le ⟨(Le.refl _), ⟨(Le.refl _), ⟨(Le.refl _), ⟨(Le.refl _), ⟨(Le.refl _), ⟨(Le.of_eq (by kernel_rfl)), trivial⟩⟩⟩⟩⟩⟩ ⟨LeO.rflc, ⟨LeO.rflc, trivial⟩⟩ rfl) ?_ (fun i hi => ?_))
 ·exact Nat.zero_le _
 ·have w2 := hs.2 i
  by_cases h0 : 0 < b.l.length
  ·have hqi : q i = (IntKind.i64.wrap (b.l.getD ((from' + i) % b.l.length) 0)).tmod (((x.l.getD i default).l.length : Int) + 1) - 1 := by rw [hq]; unfold drawnV; rw [if_pos h0]
   have m1 := Int.tmod_nonneg (b.l.length : Int) (show (0 : Int) ≤ (from' : Int) + (i : Int) by omega)
   have m2 := Int.tmod_lt_of_pos ((from' : Int) + (i : Int)) (show (0 : Int) < (b.l.length : Int) by omega)
   have hgt : decide ((b.l.length : Int) > 0) = true := decide_eq_true (by omega)
   refine vcQ [] (lkL [(3, [1, 2, 7, 15, 16, 17, 18]), (4, [1, 2, 7, 8, 9, 15, 16, 17]), (5, [1, 2, 7, 8, 9, 15, 16, 17]), (6, [1, 2, 7, 8, 9, 15, 16, 17, 27]), (7, [1, 2, 7, 15, 16, 17]), (8, [1, 2, 7, 15, 16, 17])]) (lkL [(5, [(3, ROrc.val (Orc.obj fun (j : Nat) => if j = i then int i64 (-1) else drwC q i j))]), (7, [(18, ROrc.val (Orc.obj (drwC q (i + 1))))])]) (fun Q => (fun (u1 : Nat) => (fun (u2 : Int) => (fun (u3 : Int) => (fun (u4 : List (Nat × AV)) => (fun (u5 : Int) => (fun (u6 : Int) => (fun (u7 : Int) => (fun (u8 : Int) => (fun (u9 : Int) => (fun (u10 : AObj) => (fun (u11 : Int) => (decide (u3 < u7) = true → (0 ≤ u3 ∧ u3 < u7) ∧ 1 ≤ 1 ∧ (0 ≤ u3 ∧ u3 < u7) ∧ i + 1 ≤ u1 * 1 ∧ (∀ (c : Nat), c < u1 * 1 → (if c = i then int i64 (-1) else drwC q i c) = over (fun (a : Nat) => int i64 (if a < i then q a else 0)) i 1 (fun (x : Nat) => int i64 (-1)) c) ∧ (decide (u5 > 0) = true → (u8 ≤ u11 ∧ u11 ≤ u9) ∧ u5 ≠ 0 ∧ (0 ≤ Int.tmod u11 u5 ∧ Int.tmod u11 u5 < u5) ∧ 1 ≤ 1 ∧ (u8 ≤ u6 ∧ u6 ≤ u9) ∧ u6 ≠ 0 ∧ (u8 ≤ u2 ∧ u2 ≤ u9) ∧ (0 ≤ u3 ∧ u3 < u7) ∧ i + 1 ≤ u1 * 1 ∧ (∀ (c : Nat), c < u1 * 1 → int i64 (if c < i + 1 then q c else 0) = over (fun (j : Nat) => if j = i then int i64 (-1) else drwC q i j) i 1 (fun (x : Nat) => int i64 u2) c) ∧ (u8 ≤ u3 + 1 ∧ u3 + 1 ≤ u9) ∧ Q AEx.normal (St.mk u4 [u10, cells false (u1 * 1) fun (a : Nat) => int i64 (if a < i + 1 then q a else 0)] g)) ∧ (decide (u5 > 0) = false → (u8 ≤ u3 + 1 ∧ u3 + 1 ≤ u9) ∧ Q AEx.normal (St.mk u4 [u10, cells false (u1 * 1) fun (j : Nat) => if j = i then int i64 (-1) else drwC q i j] g))) ∧ (decide (u3 < u7) = false → Q (AEx.exit 0) (St.mk [(1, fz b.2 1 (b.l.length) fun (i x : Nat) => int IntKind.u8 (b.l.getD i 0)), (2, int i64 (from' : Int)), (7, sl 1 0 u1 u1 true 1), (15, encPacks x), (16, int i64 u7), (17, int i64 u3), (18, AV.bool (decide (u3 < u7)))] [u10, cells false (u1 * 1) fun (a : Nat) => int i64 (if a < i then q a else 0)] g))) ((from' : Int) + u3)) (cells false 1 (nth [encPacks x]))) (9223372036854775807)) (-9223372036854775808)) ((u1 : Int))) ((↑((x.l.getD i default).l.length) : Int) + 1)) ((b.l.length : Int))) ([(1, fz b.2 1 (b.l.length) fun (i x : Nat) => int IntKind.u8 (b.l.getD i 0)), (2, int i64 (from' : Int)), (7, sl 1 0 u1 u1 true 1), (15, encPacks x), (16, int i64 (u1 : Int)), (17, int i64 (u3 + 1))])) ((i : Int))) (Int.tmod (IntKind.wrap i64 (b.l.getD ((from' + i) % b.l.length) 0)) ((↑((x.l.getD i default).l.length) : Int) + 1) - 1)) (x.l.length)) (fun _ => by kernel_rfl) ⟨fun c1 => have c1 : (i : Int) < (x.l.length : Int) := (of_decide_eq_true c1); ⟨(by omega), ⟨(by omega), ⟨(by omega), ⟨(by omega), ⟨?_, ⟨fun _ => ⟨(by omega), ⟨(by omega), ⟨(by omega), ⟨(by omega), ⟨(by omega), ⟨(by omega), ⟨?_, ⟨(by omega), ⟨(by omega), ⟨?_, ⟨(by omega), ?_⟩⟩⟩⟩⟩⟩⟩⟩⟩⟩⟩, fun hcc => (nomatch (hgt.symm.trans hcc))⟩⟩⟩⟩⟩⟩, fun c1 => have c1 : ¬(i : Int) < (x.l.length : Int) := (of_decide_eq_false c1); ?_⟩
   ·intro c hc
    rw [over_eq]
    by_cases h : c = i
    ·rw [if_pos h, if_pos (by omega)]
    ·rw [if_neg h, if_neg (by omega)]; rfl
   ·have := hqb i (by omega)
    rw [hqi] at this
    omega
   ·intro c hc
    rw [over_eq, ← hqi]
    by_cases h : c = i
    ·rw [if_pos (show i ≤ c ∧ c < i + 1 by omega), if_pos (by omega), h]
    ·rw [if_neg (show ¬ (i ≤ c ∧ c < i + 1) by omega)]
     show _ = if c = i then _ else drwC q i c
     rw [if_neg h]
     show AV.int .i64 _ = AV.int .i64 (if c < i then q c else 0)
     by_cases h2 : c < i
     ·rw [if_pos h2, if_pos (by omega)]
     ·rw [if_neg h2, if_neg (by omega)]
   ·refine (next_round (i + 1) (to_fr ⟨(Le.refl _), ⟨(Le.refl _), ⟨(Le.refl _), ⟨(Le.refl _), ⟨(Le.refl _), ⟨(Le.of_eq (by kernel_rfl)), trivial⟩⟩⟩⟩⟩⟩ rfl rfl) ?_ ?_)
    ·omega
    ·omega
   ·have e : i = x.l.length := by omega
    subst e
    refine ⟨_, To.refl _, vcQ [] (lkL [(9, [6])]) (fun _ => []) (fun Q => Q AEx.ret (St.mk [(6, sl 1 0 (x.l.length) (x.l.length) true 1)] [cells false 1 (nth [encPacks x]), cells false (x.l.length * 1) fun (a : Nat) => int i64 (if a < x.l.length then q a else 0)] g)) (fun _ => by kernel_rfl) (?_)⟩
    refine (retQ_le (retQ_frz 0 [1] _ _ rfl trivial (by omega) (by exact ⟨(fun _ _ => trivial), ⟨⟨(by simp at * <;> omega), (by omega)⟩, trivial⟩⟩) (by exact trivial) (by exact trivial) (by kernel_rfl) rfl rfl) (Le.of_eq ?_))
    show AV.fz (bif true && Nat.beq x.l.length x.l.length then .exa else .opn) _ _ _ = _
    rw [Nat.beq_refl]
    rfl
  ·have hqi : q i = -1 := by rw [hq]; unfold drawnV; rw [if_neg h0]
   have hgt : decide ((b.l.length : Int) > 0) = false := decide_eq_false (by omega)
   refine vcQ [] (lkL [(3, [1, 2, 7, 15, 16, 17, 18]), (4, [1, 2, 7, 8, 9, 15, 16, 17]), (5, [1, 2, 7, 8, 9, 15, 16, 17]), (6, [1, 2, 7, 8, 9, 15, 16, 17, 27]), (7, [1, 2, 7, 15, 16, 17]), (8, [1, 2, 7, 15, 16, 17])]) (lkL [(5, [(3, ROrc.val (Orc.obj (drwC q (i + 1))))])]) (fun Q => (fun (u1 : Nat) => (fun (u2 : Int) => (fun (u3 : Int) => (fun (u4 : List (Nat × AV)) => (fun (u5 : Int) => (fun (u6 : Int) => (fun (u7 : Int) => (fun (u8 : Int) => (fun (u9 : Int) => (fun (u10 : AObj) => (fun (u11 : Int) => (decide (u3 < u7) = true → (0 ≤ u3 ∧ u3 < u7) ∧ 1 ≤ 1 ∧ (0 ≤ u3 ∧ u3 < u7) ∧ i + 1 ≤ u1 * 1 ∧ (∀ (c : Nat), c < u1 * 1 → int i64 (if c < i + 1 then q c else 0) = over (fun (a : Nat) => int i64 (if a < i then q a else 0)) i 1 (fun (x : Nat) => int i64 (-1)) c) ∧ (decide (u5 > 0) = true → (u8 ≤ u11 ∧ u11 ≤ u9) ∧ u5 ≠ 0 ∧ (0 ≤ Int.tmod u11 u5 ∧ Int.tmod u11 u5 < u5) ∧ 1 ≤ 1 ∧ (u8 ≤ u6 ∧ u6 ≤ u9) ∧ u6 ≠ 0 ∧ (u8 ≤ u2 ∧ u2 ≤ u9) ∧ (0 ≤ u3 ∧ u3 < u7) ∧ i + 1 ≤ u1 * 1 ∧ (u8 ≤ u3 + 1 ∧ u3 + 1 ≤ u9) ∧ Q AEx.normal (St.mk u4 [u10, cells false (u1 * 1) (over (fun (a : Nat) => int i64 (if a < i + 1 then q a else 0)) i 1 fun (x : Nat) => int i64 u2)] g)) ∧ (decide (u5 > 0) = false → (u8 ≤ u3 + 1 ∧ u3 + 1 ≤ u9) ∧ Q AEx.normal (St.mk u4 [u10, cells false (u1 * 1) fun (a : Nat) => int i64 (if a < i + 1 then q a else 0)] g))) ∧ (decide (u3 < u7) = false → Q (AEx.exit 0) (St.mk [(1, fz b.2 1 (b.l.length) fun (i x : Nat) => int IntKind.u8 (b.l.getD i 0)), (2, int i64 (from' : Int)), (7, sl 1 0 u1 u1 true 1), (15, encPacks x), (16, int i64 u7), (17, int i64 u3), (18, AV.bool (decide (u3 < u7)))] [u10, cells false (u1 * 1) fun (a : Nat) => int i64 (if a < i then q a else 0)] g))) ((from' : Int) + u3)) (cells false 1 (nth [encPacks x]))) (9223372036854775807)) (-9223372036854775808)) ((u1 : Int))) ((↑((x.l.getD i default).l.length) : Int) + 1)) ((b.l.length : Int))) ([(1, fz b.2 1 (b.l.length) fun (i x : Nat) => int IntKind.u8 (b.l.getD i 0)), (2, int i64 (from' : Int)), (7, sl 1 0 u1 u1 true 1), (15, encPacks x), (16, int i64 (u1 : Int)), (17, int i64 (u3 + 1))])) ((i : Int))) (Int.tmod (IntKind.wrap i64 (b.l.getD ((from' + i) % b.l.length) 0)) ((↑((x.l.getD i default).l.length) : Int) + 1) - 1)) (x.l.length)) (fun _ => by kernel_rfl) ⟨fun c1 => have c1 : (i : Int) < (x.l.length : Int) := (of_decide_eq_true c1); ⟨(by omega), ⟨(by omega), ⟨(by omega), ⟨(by omega), ⟨?_, ⟨fun hcc => (nomatch (hgt.symm.trans hcc)), fun _ => ⟨(by omega), ?_⟩⟩⟩⟩⟩⟩⟩, fun c1 => have c1 : ¬(i : Int) < (x.l.length : Int) := (of_decide_eq_false c1); ?_⟩
   ·intro c hc
    rw [over_eq]
    by_cases h : c = i
    ·rw [if_pos (show i ≤ c ∧ c < i + 1 by omega), if_pos (by omega), h, hqi]
    ·rw [if_neg (show ¬ (i ≤ c ∧ c < i + 1) by omega)]
     show AV.int .i64 _ = AV.int .i64 (if c < i then q c else 0)
     by_cases h2 : c < i
     ·rw [if_pos h2, if_pos (by omega)]
     ·rw [if_neg h2, if_neg (by omega)]
   ·refine (next_round (i + 1) (to_fr ⟨(Le.refl _), ⟨(Le.refl _), ⟨(Le.refl _), ⟨(Le.refl _), ⟨(Le.refl _), ⟨(Le.of_eq (by kernel_rfl)), trivial⟩⟩⟩⟩⟩⟩ rfl rfl) ?_ ?_)
    ·omega
    ·omega
   ·have e : i = x.l.length := by omega
    subst e
    refine ⟨_, To.refl _, vcQ [] (lkL [(9, [6])]) (fun _ => []) (fun Q => Q AEx.ret (St.mk [(6, sl 1 0 (x.l.length) (x.l.length) true 1)] [cells false 1 (nth [encPacks x]), cells false (x.l.length * 1) fun (a : Nat) => int i64 (if a < x.l.length then q a else 0)] g)) (fun _ => by kernel_rfl) (?_)⟩
    refine (retQ_le (retQ_frz 0 [1] _ _ rfl trivial (by omega) (by exact ⟨(fun _ _ => trivial), ⟨⟨(by simp at * <;> omega), (by omega)⟩, trivial⟩⟩) (by exact trivial) (by exact trivial) (by kernel_rfl) rfl rfl) (Le.of_eq ?_))
    show AV.fz (bif true && Nat.beq x.l.length x.l.length then .exa else .opn) _ _ _ = _
    rw [Nat.beq_refl]
    rfl
theorem c_drawn (R : Res) (x : Ix) (b : KL Int) (from' : Nat) (hp : List AObj) (g : R.σ) (hs : small x) (h1 : 1 ≤ x.l.length) (hf : from' < 1000000) (hb : ∀ v ∈ b.l, 0 ≤ v ∧ v ≤ 255) : Does Tryd.prog R 33 [encIx x, encB b, .int .i64 from'] hp g (.ret (encI ⟨drawnL x b.l from', .exa⟩)) hp g := by
 refine does_any' (fun R g => ?_) (by exact ⟨⟨trivial, trivial⟩, ⟨trivial, ⟨trivial, trivial⟩⟩⟩) R hp g
 refine does_conv (drawn_all R x b from' g hs h1 hf hb) ⟨Le.refl _, Le.refl _, Le.refl _, trivial⟩ ?_
 show Le _ (.fz .exa 1 (drawnL x b.l from').length (fun i _ => .int .i64 ((drawnL x b.l from').getD i 0)))
 rw [drawnL_len]
 refine leK_ok rfl (fun i j hi hj => ?_)
 have : j = 0 := by omega
 subst this
 rw [drawnL_getD hi]
 show AV.int .i64 (if 0 + i * 1 + 0 < x.l.length then drawnV x b.l from' (0 + i * 1 + 0) else 0) = _
 rw [show 0 + i * 1 + 0 = i by omega, if_pos hi]
end Go.Avm.Pack
namespace Go.Avm.Pack
open Go Go.Avm Go.Proofs
open Go.IntKind (i64 u64)
open Go.Avm.AV (int bool any fz fp sl ow ref fn ifc val agg tup)
open Go.Avm.AObj (cells dead)
open Go.Avm.Oc (ret)
set_option maxRecDepth 4000

end Go.Avm.Pack
namespace Go.Avm.Pack
open Go Go.Avm Go.Proofs
open Go.IntKind (i64 u64)
open Go.Avm.AV (int bool any fz fp sl ow ref fn ifc val agg tup)
open Go.Avm.AObj (cells dead)
open Go.Avm.Oc (ret)
set_option maxRecDepth 4000

theorem nwV_asym {v w : Int} (h : v ≠ w) (h1 : nwV v w = true) : nwV w v = false := by
 unfold nwV at *
 simp at *
 omega
theorem newerF_iff {a b : List Int} : ∀ (k i : Nat), newerF a b k i = true ↔ ∃ t, i ≤ t ∧ t < i + k ∧ (∀ j, i ≤ j → j < t → a.getD j 0 = b.getD j 0) ∧ a.getD t 0 ≠ b.getD t 0 ∧ nwV (a.getD t 0) (b.getD t 0) = true
 | 0, i => by
   constructor
   ·intro h; cases h
   ·rintro ⟨t, h1, h2, _⟩; omega
 | k + 1, i => by
   unfold newerF
   by_cases he : a.getD i 0 = b.getD i 0
   ·rw [if_pos (by simpa using he), newerF_iff k (i + 1)]
    constructor
    ·rintro ⟨t, h1, h2, h3, h4⟩
     refine ⟨t, by omega, by omega, fun j hj1 hj2 => ?_, h4⟩
     by_cases hji : j = i
     ·rw [hji, he]
     ·exact h3 j (by omega) hj2
    ·rintro ⟨t, h1, h2, h3, h4, h5⟩
     have : t ≠ i := fun e => by rw [e] at h4; exact h4 he
     exact ⟨t, by omega, by omega, fun j hj1 hj2 => h3 j (by omega) hj2, h4, h5⟩
   ·rw [if_neg (by simpa using he)]
    constructor
    ·intro h
     exact ⟨i, Nat.le_refl _, by omega, fun j h1 h2 => absurd h2 (by omega), he, h⟩
    ·rintro ⟨t, h1, h2, h3, h4, h5⟩
     by_cases hti : t = i
     ·rw [hti] at h5; exact h5
     ·exact absurd (h3 i (Nat.le_refl _) (by omega)) he
theorem newer_iff {a b : List Int} : newerB a b = true ↔ ∃ t, t < a.length ∧ (∀ j, j < t → a.getD j 0 = b.getD j 0) ∧ a.getD t 0 ≠ b.getD t 0 ∧ nwV (a.getD t 0) (b.getD t 0) = true := by
 unfold newerB
 rw [newerF_iff]
 constructor
 ·rintro ⟨t, _, h2, h3, h4⟩
  exact ⟨t, by omega, fun j hj => h3 j (Nat.zero_le _) hj, h4⟩
 ·rintro ⟨t, h2, h3, h4⟩
  exact ⟨t, Nat.zero_le _, by omega, fun j _ hj => h3 j hj, h4⟩
theorem newer_asym {a b : List Int} (h1 : newerB a b = true) (h2 : newerB b a = true) : False := by
 rw [newer_iff] at *
 obtain ⟨s, s1, s2, s3, s4⟩ := h1
 obtain ⟨t, t1, t2, t3, t4⟩ := h2
 rcases Nat.lt_trichotomy s t with h | h | h
 ·exact s3 (t2 s h).symm
 ·subst h
  rw [nwV_asym s3 s4] at t4
  cases t4
 ·exact t3 (s2 t h).symm

structure Ord (x : Ix) (lt : List Int → List Int → Bool) : Prop where
 trans : ∀ a b c, isPlan x a → isPlan x b → isPlan x c → lt a b = true → lt b c = true → lt a c = true
 asym : ∀ a b, lt a b = true → lt b a = true → False
 total : ∀ a b, isPlan x a → isPlan x b → a ≠ b → lt a b = true ∨ lt b a = true
def Pick (x : Ix) (okf : List Int → Bool) (lt : List Int → List Int → Bool) (S : List Int → Prop) (q : List Int) : Prop :=
 (q = [] ∧ ∀ r, S r → okf r = false) ∨ (isPlan x q ∧ S q ∧ okf q = true ∧ ∀ r, S r → okf r = true → r ≠ q → lt q r = true)
end Go.Avm.Pack
namespace Go.Avm.Pack
open Go Go.Avm Go.Proofs
open Go.IntKind (i64 u64)
open Go.Avm.AV (int bool any fz fp sl ow ref fn ifc val agg tup)
open Go.Avm.AObj (cells dead)
open Go.Avm.Oc (ret)
set_option maxRecDepth 4000

theorem enumS_sorted {x : Ix} : ∀ (k m : Nat), m + k = x.l.length → ∀ pl : List Int, pl.length = x.l.length → (enumS x k pl).Pairwise fun a b => newerB a b = true
 | 0, m, hm, pl, hpl => List.pairwise_singleton _ _
 | k + 1, m, hm, pl, hpl => by
   have em : x.l.length - (k + 1) = m := by omega
   unfold enumS
   rw [em]
   obtain ⟨N, hN⟩ : ∃ N, (x.l.getD m default).l.length = N := ⟨_, rfl⟩
   rw [hN]
   have key : ∀ n, n ≤ N + 1 → ((List.range n).flatMap fun j => enumS x k (pl.set m (itemC N j))).Pairwise fun a b => newerB a b = true := by
    intro n
    induction n with
    | zero => intro _; exact List.Pairwise.nil
    | succ n ih =>
      intro hn
      rw [List.range_succ, List.flatMap_append, List.pairwise_append]
      refine ⟨ih (by omega), by simpa using enumS_sorted k (m + 1) (by omega) (pl.set m (itemC N n)) (by simpa using hpl), fun a ha b hb => ?_⟩
      obtain ⟨j, hj, ha⟩ := List.mem_flatMap.1 ha
      have hj : j < n := List.mem_range.1 hj
      have hb : b ∈ enumS x k (pl.set m (itemC N n)) := by simpa using hb
      obtain ⟨a1, a2, _⟩ := (enumS_mem k (m + 1) (by omega) _ (by simpa using hpl)).1 ha
      obtain ⟨b1, b2, _⟩ := (enumS_mem k (m + 1) (by omega) _ (by simpa using hpl)).1 hb
      have am : a.getD m 0 = itemC N j := by rw [a2 m (by omega), set_getD (by omega), if_pos rfl]
      have bm : b.getD m 0 = itemC N n := by rw [b2 m (by omega), set_getD (by omega), if_pos rfl]
      have hlt : itemC N j ≠ itemC N n ∧ nwV (itemC N j) (itemC N n) = true := by
       obtain ⟨n', rfl⟩ : ∃ n', n = n' + 1 := ⟨n - 1, by omega⟩
       have hn' : itemC N (n' + 1) = (N : Int) - (n' + 1 : Nat) := rfl
       cases j with
       | zero =>
         have h0 : itemC N 0 = -1 := rfl
         rw [h0, hn']
         exact ⟨by omega, rfl⟩
       | succ j =>
         have h0 : itemC N (j + 1) = (N : Int) - (j + 1 : Nat) := rfl
         rw [h0, hn']
         refine ⟨by omega, ?_⟩
         unfold nwV
         simp
         omega
      refine newer_iff.2 ⟨m, by omega, fun i hi => ?_, by rw [am, bm]; exact hlt.1, by rw [am, bm]; exact hlt.2⟩
      rw [a2 i (by omega), b2 i (by omega), set_getD (by omega), set_getD (by omega), if_neg (by omega), if_neg (by omega)]
   exact key (N + 1) (Nat.le_refl _)
theorem plansL_sorted (x : Ix) : (plansL x).Pairwise fun a b => newerB a b = true := enumS_sorted x.l.length 0 (by omega) _ (planL_len _ _)
theorem okP_right {x : Ix} {gl : List Rng} (hck : checkB x gl = true) {q : List Int} (hq : isPlan x q) : okP x gl (clausesOf x gl) true q = rightB x gl q := by
 unfold okP
 rw [right_eq hck hq, brk_all]
 cases hr : ((faultOf x gl (planOf q x.l.length)).1 == 0) with
 | false => simp
 | true =>
   have := right_keeps hck hq (by rw [right_eq hck hq, hr])
   rw [List.any_eq_false.2 (fun c hc => by rw [this c hc]; simp)]
   rfl
theorem best_pick {x : Ix} {gl : List Rng} (hck : checkB x gl = true) : Pick x (rightB x gl) newerB (isPlan x) (bestR x gl).1 := by
 have hx := (check_parts hck).1
 have hgl := check_goals hck
 rw [bestR_eq hck]
 show Pick x (rightB x gl) newerB (isPlan x) (searchR x gl (clausesOf x gl) true []).1
 rw [search_first hx hgl (fun c hc => there_all hc)]
 cases h : (plansL x).find? (okP x gl (clausesOf x gl) true) with
 | none =>
   rw [List.find?_eq_none] at h
   refine .inl ⟨rfl, fun r hr => ?_⟩
   have := h r (plansL_mem.2 hr)
   rw [okP_right hck hr] at this
   simpa using this
 | some q =>
   obtain ⟨h1, pre, post, h2, h3⟩ := List.find?_eq_some_iff_append.1 h
   have hq : isPlan x q := plansL_mem.1 (by rw [h2]; simp)
   rw [okP_right hck hq] at h1
   refine .inr ⟨hq, hq, h1, fun r hr hor hne => ?_⟩
   have hm : r ∈ plansL x := plansL_mem.2 hr
   rw [h2] at hm
   rcases List.mem_append.1 hm with hm | hm
   ·have := h3 r hm
    rw [okP_right hck hr, hor] at this
    cases this
   ·rcases List.mem_cons.1 hm with hm | hm
    ·exact absurd hm hne
    ·have hs := plansL_sorted x
     rw [h2, List.pairwise_append] at hs
     exact (List.pairwise_cons.1 hs.2.1).1 r hm
end Go.Avm.Pack
namespace Go.Avm.Pack
open Go Go.Avm Go.Proofs
open Go.IntKind (i64 u64)
open Go.Avm.AV (int bool any fz fp sl ow ref fn ifc val agg tup)
open Go.Avm.AObj (cells dead)
open Go.Avm.Oc (ret)
set_option maxRecDepth 4000
theorem pick_some {x : Ix} (hx : formedB x = true) {okf : List Int → Bool} {lt : List Int → List Int → Bool} {q : List Int} (h : Pick x okf lt (isPlan x) q) (hq : q ≠ []) : isPlan x q ∧ okf q = true := by
 rcases h with ⟨h1, _⟩ | ⟨h1, _, h3, _⟩
 ·exact absurd h1 hq
 ·exact ⟨h1, h3⟩
end Go.Avm.Pack
namespace Go.Avm.Pack
open Go Go.Avm Go.Proofs
open Go.IntKind (i64 u64)
open Go.Avm.AV (int bool any fz fp sl ow ref fn ifc val agg tup)
open Go.Avm.AObj (cells dead)
open Go.Avm.Oc (ret)
set_option maxRecDepth 4000
def QB (x : KL Int) : Prop := ∀ v ∈ x.l, 0 ≤ v ∧ v ≤ 255
theorem rea_bytes : Rea Tryd.prog 62 1 QB (fun x _ => encB x) :=
 Rea.map (rd_slice Tryd.underlying62 (by kernel_rfl) (by omega) (rd_int Tryd.underlying5)) klOf (fun x h v hv => by
  have := h.1 v hv
  simp [Lit.wf, IntKind.min, IntKind.max, IntKind.signed, IntKind.bits] at this
  omega) (fun x j hj => rfl)
theorem arg_bytes : Arg Tryd.prog 62 QB encB := arg_slice Tryd.underlying62 rea_bytes
end Go.Avm.Pack
namespace Go.Avm.Pack
open Go Go.Avm Go.Proofs
open Go.IntKind (i64 u64)
open Go.Avm.AV (int bool any fz fp sl ow ref fn ifc val agg tup)
open Go.Avm.AObj (cells dead)
open Go.Avm.Oc (ret)
set_option maxRecDepth 4000

def tab32 : List Int := [0, 1, 28, 2, 29, 14, 24, 3, 30, 22, 20, 15, 25, 17, 4, 8, 31, 27, 13, 23, 21, 19, 16, 7, 26, 12, 18, 6, 11, 5, 10, 9]
def tab64 : List Int := [0, 1, 56, 2, 57, 49, 28, 3, 61, 58, 42, 50, 38, 29, 17, 4, 62, 47, 59, 36, 45, 43, 51, 22, 53, 39, 33, 30, 24, 18, 12, 5, 63, 55, 48, 27, 60, 41, 37, 16, 46, 35, 44, 21, 52, 32, 23, 11, 54, 26, 40, 15, 34, 20, 31, 10, 25, 14, 19, 9, 13, 8, 7, 6]
abbrev gsT : List (Nat × List Int) := [(0, tab32), (1, tab64)]
abbrev LT : Mem → Prop := Tabs gsT
def memS (s : Nat) : List Nat := (List.range 5).filter (fun k => s.testBit k)
def cutS (s : Nat) : Nat → Nat
 | 0 => s
 | k + 1 => cutS s k &&& (cutS s k - 1)
theorem forS {p : Nat → Bool} (h : (List.range 32).all p = true) (s : Nat) (hs : s < 32) : p s = true := (List.all_eq_true.1 h) s (by simpa using hs)
theorem cutS_lt (s : Nat) (hs : s < 32) : ∀ k, cutS s k < 32
 | 0 => hs
 | k + 1 => Nat.lt_of_le_of_lt Nat.and_le_left (cutS_lt s hs k)
theorem cutS_in (s : Nat) (hs : s < 32) (k : Nat) (hk : k < (memS s).length) : 0 < cutS s k ∧ (memS (cutS s k)).head! = (memS s).getD k 0 := by
 have h := forS (p := fun s => (List.range (memS s).length).all (fun k => decide (0 < cutS s k ∧ (memS (cutS s k)).head! = (memS s).getD k 0))) (by decide) s hs
 have := (List.all_eq_true.1 h) k (by simpa using hk)
 simpa using this
theorem cutS_end (s : Nat) (hs : s < 32) : cutS s (memS s).length = 0 := by
 have h := forS (p := fun s => decide (cutS s (memS s).length = 0)) (by decide) s hs
 simpa using h
theorem andU (s : Nat) (hs : s < 32) : (AV.int .u64 (IntKind.u64.wrap (BitVec.ofInt 64 (s : Int) &&& BitVec.ofInt 64 (IntKind.u64.wrap ((s : Int) - 1))).toNat)) = .int .u64 ((s &&& (s - 1) : Nat) : Int) := by
 have h := forS (p := fun s => decide (IntKind.u64.wrap (BitVec.ofInt 64 (s : Int) &&& BitVec.ofInt 64 (IntKind.u64.wrap ((s : Int) - 1))).toNat = ((s &&& (s - 1) : Nat) : Int))) (by decide) s hs
 rw [of_decide_eq_true h]
def idxT (s : Nat) : Int := Int.fdiv (IntKind.wrap .u64 (IntKind.wrap .u64 (↑(BitVec.toNat (BitVec.ofInt 64 (↑s : Int) &&& BitVec.ofInt 64 (IntKind.wrap .u64 (0 - (↑s : Int))))) : Int) * 285870213051353865)) (2 ^ 58)
theorem idxT_in (s : Nat) (hs : s < 32) (h0 : 0 < s) : 0 ≤ idxT s ∧ idxT s < 64 ∧ tab64.getD (idxT s).toNat 0 = ((memS s).head! : Int) := by
 have h := forS (p := fun s => decide (0 < s → 0 ≤ idxT s ∧ idxT s < 64 ∧ tab64.getD (idxT s).toNat 0 = ((memS s).head! : Int))) (by decide) s hs
 exact of_decide_eq_true h h0
theorem head_in (s : Nat) (hs : s < 32) : (AV.int .i64 (IntKind.wrap .i64 ((memS s).head! : Int))) = .int .i64 ((memS s).head! : Int) := by
 have h := forS (p := fun s => decide (IntKind.wrap .i64 ((memS s).head! : Int) = ((memS s).head! : Int))) (by decide) s hs
 rw [of_decide_eq_true h]
theorem c_TrailingZeros64 (R : Res) [Tab LT R] (s : Nat) (h0 : 0 < s) (h1 : s < 32) (g : R.σ) : Does Tryd.prog R 96 [.int .u64 s] [] g (.ret (.int .i64 (memS s).head!)) [] g := by
 refine spec_of_wp (nt := 14) (rs := [.tmp 2]) (k0 := 0) (by kernel_rfl) (by kernel_rfl) (by kernel_rfl) rfl ?_
 have hI := idxT_in s h1 h0
 refine vcQ [] (lkL [(0, [0]), (1, [0, 4]), (2, [2]), (3, [2])]) (lkL [(3, [(6, ROrc.kop (fp 1 fun (x : Nat) => int IntKind.u8 (↑(List.head! (memS s)) : Int)))])]) (fun Q => (fun (u1 : Int) => (fun (u2 : Int) => ((u2 == 0) = true → Q AEx.ret (St.mk [(2, int i64 64)] [] g)) ∧ ((u2 == 0) = false → (↑0 : Int) ≤ 58 ∧ OpOk Tryd.prog R (Oper.mk (some 11) (Op.indexAddr 141 (Operand.global 1) (Operand.tmp 10)) 0 "bits.go:105" #[Edge.mk 5 Ground.data] none) (evO [Row.mk (some 10) none (int u64 (Int.fdiv (IntKind.wrap u64 (u1 * 285870213051353865)) (2 ^ 58))) false (some []) [], Row.mk (some 9) none (int u64 (IntKind.wrap u64 (u1 * 285870213051353865))) false (some []) [], Row.mk (some 8) none (int u64 u1) false (some []) [], Row.mk (some 7) none (int u64 (IntKind.wrap u64 (0 - u2))) false (some []) [], Row.mk (some 6) none (int u64 u2) false (some []) [], Row.mk (some 5) none (int u64 u2) false (some []) []] [(0, int u64 u2), (4, AV.bool (u2 == 0))] []) [] g (fp 1 fun (x : Nat) => int IntKind.u8 (↑(List.head! (memS s)) : Int)) [] g ∧ 1 ≤ 1 ∧ Q AEx.ret (St.mk [(2, int i64 (IntKind.wrap i64 (↑(List.head! (memS s)) : Int)))] [] g))) ((s : Int))) (IntKind.wrap u64 (↑(BitVec.toNat (BitVec.ofInt 64 (s : Int) &&& BitVec.ofInt 64 (IntKind.wrap u64 (0 - (s : Int))))) : Int))) (fun _ => by kernel_rfl) ⟨fun c1 => have c1 : (s : Int) = 0 := (beq_iff_eq.mp c1); ?_, fun c1 => have c1 : ¬(s : Int) = 0 := (beq_eq_false_iff_ne.mp c1); ⟨(by omega), ⟨?_, ⟨(by omega), ?_⟩⟩⟩⟩
 ·exact absurd c1 (by omega)
 ·exact opOk_tabAt (gs := gsT) 1 tab64 (by simp) rfl rfl rfl (i := idxT s) rfl (by kernel_rfl) hI.1 (by rw [show (tab64.length : Int) = 64 from rfl]; exact hI.2.1) hI.2.2
 ·rw [head_in s h1]
  refine (retQ_le (retQ_same' _ _ rfl trivial rfl rfl rfl) (Le.refl _))
theorem c_TrailingZeros (R : Res) [Tab LT R] (s : Nat) (h0 : 0 < s) (h1 : s < 32) (g : R.σ) : Does Tryd.prog R 76 [.int .u64 s] [] g (.ret (.int .i64 (memS s).head!)) [] g := by
 refine spec_of_wp (nt := 8) (rs := [.tmp 2]) (k0 := 0) (by kernel_rfl) (by kernel_rfl) (by kernel_rfl) rfl ?_
 refine vcQ [] (lkL [(0, [0])]) (fun _ => []) (fun Q => Wp Tryd.prog R 8 0 Rd.top (bodyOf Tryd.prog 76) [1, 0] (contQ Tryd.prog R 8 0 Rd.top (bodyOf Tryd.prog 76) Q [Kont.seq [1, 1]]) (St.mk [(0, int u64 (s : Int))] [] g)) (fun _ => by kernel_rfl) (?_)
 refine wp_condK false (by kernel_rfl) ?_
 show Wp _ _ _ _ _ _ [1, 0, 1] _ _
 refine vcQ [] (lkL []) (fun _ => []) (fun Q => Q AEx.normal (St.mk [(0, int u64 (s : Int))] [] g)) (fun _ => by kernel_rfl) (?_)
 refine vcQ [] (lkL [(2, [2])]) (lkL [(2, [(1, ROrc.kcall (int i64 (↑(List.head! (memS s)) : Int)))])]) (fun Q => (true = true ∧ Does Tryd.prog R 96 [int u64 (s : Int)] [] g (ret (int i64 (↑(List.head! (memS s)) : Int))) [] g) ∧ Q AEx.ret (St.mk [(2, int i64 (↑(List.head! (memS s)) : Int))] [] g)) (fun _ => by kernel_rfl) ⟨⟨rfl, (Go.Avm.Pack.c_TrailingZeros64 _ _ (by omega) (by omega) _)⟩, ?_⟩
 refine (retQ_le (retQ_same' _ _ rfl trivial rfl rfl rfl) (Le.refl _))
theorem members_new (R : Res) (s : Nat) (g : R.σ) : Does Tryd.prog R 38 [.int .u64 s] [] g (.ret (.fn 75 0 (nth []) 1 (nth [.ref 0 0]))) [.cells false 1 (fun _ => .int .u64 s)] g := by
 refine spec_of_wp (nt := 4) (rs := [.tmp 2]) (k0 := 0) (by kernel_rfl) (by kernel_rfl) (by kernel_rfl) rfl ?_
 refine vcQ [] (lkL [(0, [1]), (1, [2])]) (fun _ => []) (fun Q => Q AEx.ret (St.mk [(2, fn 75 0 (nth []) 1 (nth [ref 0 0]))] [cells false 1 fun (a : Nat) => int u64 (s : Int)] g)) (fun _ => by kernel_rfl) (?_)
 refine (retQ_le (retQ_same' _ _ rfl trivial rfl rfl rfl) (Le.refl _))
theorem leH_refl : ∀ hp : List AObj, leH hp hp
 | [] => trivial
 | x :: r => ⟨LeO.refl x, leH_refl r⟩
theorem c_members (R : Res) (s : Nat) (hp : List AObj) (g : R.σ) : Does Tryd.prog R 38 [.int .u64 s] hp g (.ret (.fn 75 0 (nth []) 1 (nth [.ref hp.length 0]))) (hp ++ [.cells false 1 (fun _ => .int .u64 s)]) g :=
 does_sub' [] hp.length (fun R g => members_new R s g) rfl rfl rfl trivial trivial ⟨Le.refl _, trivial⟩ (Le.fn (fun i hi => absurd hi (Nat.not_lt_zero i)) (fun i hi => by
  have : i = 0 := by omega
  subst this
  exact Le.refl _)) (leH_refl _)
def endS (s : Nat) (c : Nat → Bool) : Nat := if (List.range (memS s).length).all c then cutS s (memS s).length else cutS s (stopF c (memS s).length 0 - 1)
theorem endS_at {s : Nat} {c : Nat → Bool} {k : Nat} (h : ∀ j, j < k → c j = true) (hk : k < (memS s).length) (hc : c k = false) : endS s c = cutS s k := by
 have e : (List.range (memS s).length).all c = false := by
  rw [List.all_eq_false]
  exact ⟨k, by simpa using hk, by simp [hc]⟩
 unfold endS
 rw [e, stopF_at h hk hc]
 rfl
theorem endS_all {s : Nat} {c : Nat → Bool} (h : ∀ j, j < (memS s).length → c j = true) : endS s c = cutS s (memS s).length := by
 have e : (List.range (memS s).length).all c = true := by
  rw [List.all_eq_true]
  intro j hj
  exact h j (by simpa using hj)
 unfold endS
 rw [e]
 rfl
theorem seq_members (s : Nat) (hs : s < 32) : SeqO Tryd.prog 75 (.cells false 1 (fun _ => .int .u64 s)) (memS s).length (fun k => [.int .i64 ((memS s).getD k 0)]) LT := by
 refine ⟨fun R _ u G c hu => ⟨[.cells false 1 (fun _ => .int .u64 (endS s c))], rfl, ?_⟩⟩
 refine spec_of_wp (nt := 14) (rs := []) (k0 := 1) (by kernel_rfl) (by kernel_rfl) (by kernel_rfl) rfl ?_
 refine vcQ [] (lkL []) (fun _ => []) (fun Q => Wp Tryd.prog R 14 1 Rd.top (bodyOf Tryd.prog 75) [0] (contQ Tryd.prog R 14 1 Rd.top (bodyOf Tryd.prog 75) Q [Kont.blk 0]) (St.mk [(0, val u), (1, ref 0 0)] [cells false 1 fun (x : Nat) => int u64 (s : Int)] (G 0))) (fun _ => by kernel_rfl) (?_)
 refine (wp_loop (by kernel_rfl) (fun (k : Nat) => ⟨[(0, val u), (1, ref 0 0)], [.cells false 1 (fun _ => .int .u64 (cutS s k))], (G k)⟩) (fun (k : Nat) => (k ≤ (memS s).length ∧ ∀ j, j < k → c j = true)) (fun (k : Nat) => ((memS s).length - k)) 0 (to_le ⟨(Le.refl _), ⟨(Le.refl _), trivial⟩⟩ ⟨LeO.rflc, trivial⟩ rfl) ?_ (fun k hi => ?_))
 ·exact ⟨Nat.zero_le _, fun j hj => absurd hj (by omega)⟩
 ·obtain ⟨h1, h2⟩ := hi
  have hlt := cutS_lt s hs k
  rcases Nat.lt_or_ge k (memS s).length with hk | hk
  ·obtain ⟨k1, k2⟩ := cutS_in s hs k hk
   have hy := hu k hk (fun j hj => h2 j hj)
   simp only [← k2] at hy
   have hb : (((cutS s k : Nat) : Int) != 0) = true := by
    rw [bne_iff_ne]; omega
   refine vcQ [] (lkL [(0, [0, 1, 4]), (2, [0, 1, 13]), (1, [0, 1])]) (lkL [(2, [(2, ROrc.kcall (int i64 (↑(List.head! (memS (cutS s k))) : Int))), (3, ROrc.gcall (AV.bool (c k)) (G (k + 1)))]), (1, [(4, ROrc.val (Orc.obj (nth [int u64 (IntKind.wrap u64 (↑(BitVec.toNat (BitVec.ofInt 64 (↑(cutS s k) : Int) &&& BitVec.ofInt 64 (IntKind.wrap u64 ((↑(cutS s k) : Int) - 1)))) : Int))])))])]) (fun Q => (fun (u1 : AV) => (fun (u2 : List AObj) => (fun (u3 : Int) => 1 ≤ 1 ∧ ((u3 != 0) = true → 1 ≤ 1 ∧ (true = true ∧ Does Tryd.prog R 76 [int u64 u3] u2 (G k) (ret (int i64 (↑(List.head! (memS (cutS s k))) : Int))) u2 (G k)) ∧ VDoes Tryd.prog R u [int i64 (↑(List.head! (memS (cutS s k))) : Int)] u2 (G k) (ret (AV.bool (c k))) u2 (G (k + 1)) ∧ ((!c k) = true → Q AEx.ret (St.mk [(0, val u), (1, ref 0 0), (13, AV.bool !c k)] u2 (G (k + 1)))) ∧ ((!c k) = false → 1 ≤ 1 ∧ 1 ≤ 1 ∧ 1 ≤ 1 ∧ (∀ (c : Nat), c < 1 → nth [u1] c = over (fun (x : Nat) => int u64 u3) 0 1 (fun (x : Nat) => u1) c) ∧ Q AEx.normal (St.mk [(0, val u), (1, ref 0 0)] [cells false 1 (nth [u1])] (G (k + 1))))) ∧ ((u3 != 0) = false → Q (AEx.exit 0) (St.mk [(0, val u), (1, ref 0 0), (4, AV.bool (u3 != 0))] u2 (G k)))) ((↑(cutS s k) : Int))) ([cells false 1 fun (x : Nat) => int u64 (↑(cutS s k) : Int)])) (int u64 (IntKind.wrap u64 (↑(BitVec.toNat (BitVec.ofInt 64 (↑(cutS s k) : Int) &&& BitVec.ofInt 64 (IntKind.wrap u64 ((↑(cutS s k) : Int) - 1)))) : Int)))) (fun _ => by kernel_rfl) ⟨(by omega), ⟨fun _ => ⟨(by omega), ⟨⟨rfl, (does_subT (T := LT) inferInstance [] 1 (fun R _ g => Go.Avm.Pack.c_TrailingZeros R (cutS s k) (by omega) (by omega) g) rfl rfl rfl (by exact trivial) (by exact trivial) (by exact ⟨le_ren (by exact trivial), trivial⟩) (by exact le_unren (by exact trivial)) (by exact ⟨LeO.rflc, trivial⟩))⟩, ⟨(hy _), ⟨fun c1 => have c1 : c k = false := ((Bool.not_eq_true' _).mp c1); ?_, fun c1 => have c1 : c k = true := ((Bool.not_eq_false' _).mp c1); ⟨(by omega), ⟨(by omega), ⟨(by omega), ⟨(fun c hc => match c, hc with | 0, _ => (by kernel_rfl) ), ?_⟩⟩⟩⟩⟩⟩⟩⟩, fun hcc => (nomatch (hb.symm.trans hcc))⟩⟩
   ·rw [stopF_at h2 hk c1, endS_at h2 hk c1]
    refine ⟨_, To.refl _, (retQ_le (retQ_same' _ _ rfl trivial rfl rfl rfl) (Le.refl _))⟩
   ·refine (next_round (k + 1) (to_le ⟨(Le.refl _), ⟨(Le.refl _), trivial⟩⟩ ⟨⟨rfl, Nat.le_refl _, fun j hj => match j, hj with | 0, _ => (Le.of_eq ?_) ⟩, trivial⟩ rfl) ?_ ?_)
    ·show AV.int .u64 _ = AV.int .u64 _
     exact andU (cutS s k) hlt
    ·refine ⟨by omega, fun j hj => ?_⟩
     rcases Nat.lt_or_ge j k with h | h
     ·exact h2 j h
     ·have : j = k := by omega
      subst this; exact c1
    ·omega
  ·have hk' : k = (memS s).length := by omega
   subst hk'
   have hz := cutS_end s hs
   have hb : (((cutS s (memS s).length : Nat) : Int) != 0) = false := by rw [hz]; rfl
   refine vcQ [] (lkL [(0, [0, 1, 4]), (2, [0, 1, 13])]) (lkL [(2, [(2, ROrc.kcall (int i64 (↑(List.head! (memS (cutS s ((memS s).length)))) : Int)))])]) (fun Q => (fun (u1 : Int) => 1 ≤ 1 ∧ ((u1 != 0) = true → False) ∧ ((u1 != 0) = false → Q (AEx.exit 0) (St.mk [(0, val u), (1, ref 0 0), (4, AV.bool (u1 != 0))] [cells false 1 fun (x : Nat) => int u64 u1] (G ((memS s).length))))) ((↑(cutS s ((memS s).length)) : Int))) (fun _ => by kernel_rfl) ⟨(by omega), ⟨fun hcc => (nomatch (hb.symm.trans hcc)), fun _ => ?_⟩⟩
   rw [stopF_all h2, endS_all h2]
   refine ⟨_, To.refl _, (retQ_le (retQ_same' _ _ rfl trivial rfl rfl rfl) (Le.refl _))⟩
end Go.Avm.Pack
namespace Go.Avm.Pack
open Go Go.Avm Go.Proofs
open Go.IntKind (i64 u64)
open Go.Avm.AV (int bool any fz fp sl ow ref fn ifc val agg tup)
open Go.Avm.AObj (cells dead)
open Go.Avm.Oc (ret)
set_option maxRecDepth 4000

abbrev nilR : KL Rng := ⟨[], .nil⟩
def barsB (x : Ix) (i k j n : Int) : Bool := ((x.l.getD i.toNat default).l.getD k.toNat default).bars.l.any fun r => decide (r.pack = j) && decide (r.low ≤ n ∧ n ≤ r.high)
theorem c_barred1 (R : Res) (r : Rng) (j n : Int) (g : R.σ) : Does Tryd.prog R 78 [encRng r, .ref 0 0, .ref 1 0] [.cells false 1 (fun _ => .int .i64 j), .cells false 1 (fun _ => .int .i64 n)] g (.ret (.bool (decide (r.pack = j) && decide (r.low ≤ n ∧ n ≤ r.high)))) [.cells false 1 (fun _ => .int .i64 j), .cells false 1 (fun _ => .int .i64 n)] g := by
 refine spec_of_wp (nt := 17) (rs := [.tmp 4]) (k0 := 2) (by kernel_rfl) (by kernel_rfl) (by kernel_rfl) rfl ?_
 refine vcQ [] (lkL [(0, [1, 2, 3]), (1, [4])]) (lkL [(1, [(10, ROrc.pcall (AV.bool (decide (r.low ≤ n ∧ n ≤ r.high))))])]) (fun Q => 1 ≤ 3 ∧ 1 ≤ 1 ∧ ((r.pack == j) = true → 1 ≤ 1) ∧ ((r.pack == j) = true → 2 ≤ 3) ∧ ((r.pack == j) = true → 3 ≤ 3) ∧ ((r.pack == j) = true → ∀ (hp : List AObj) (g : R.σ), true = true ∧ Does Tryd.prog R 41 [int i64 n, int i64 r.low, int i64 r.high] hp g (ret (AV.bool (decide (r.low ≤ n ∧ n ≤ r.high)))) hp g) ∧ Q AEx.ret (St.mk [(4, AV.bool (bif r.pack == j then decide (r.low ≤ n ∧ n ≤ r.high) else false))] [cells false 1 fun (x : Nat) => int i64 j, cells false 1 fun (x : Nat) => int i64 n, cells false 3 (nth [int i64 r.pack, int i64 r.low, int i64 r.high])] g)) (fun _ => by kernel_rfl) ⟨(by omega), ⟨(by omega), ⟨(by omega), ⟨(by omega), ⟨(by omega), ⟨(fun hgd => (fun _ _ => ⟨rfl, (Go.Avm.Pack.c_within _ _ _ _ _ _)⟩)), ?_⟩⟩⟩⟩⟩⟩
 refine (retQ_le (retQ_take' 2 _ _ rfl trivial (by omega) trivial ⟨(fun j hj => match j, hj with | 0, _ => trivial ), ⟨(fun j hj => match j, hj with | 0, _ => trivial ), trivial⟩⟩ (by kernel_rfl) rfl rfl) (Le.of_eq (by kernel_rfl)))
theorem rel_len {x : Ix} (hx : formedB x = true) {i k : Int} (hi : 0 ≤ i ∧ i < x.l.length) (hk : 0 ≤ k ∧ k < ((x.l.getD i.toNat default).l.length : Int)) :
  ((x.l.getD i.toNat default).l.getD k.toNat default).needs.l.length < 1000000 ∧ ((x.l.getD i.toNat default).l.getD k.toNat default).bars.l.length < 1000000 := by
 have e := formed_rel hx (i := i.toNat) (k := k.toNat) (by omega) (by omega)
 rw [relB_eq] at e
 unfold rangesB at e
 simp only [Bool.and_eq_true, decide_eq_true_eq] at e
 omega
theorem c_barred (R : Res) (x : Ix) (gl : KL Rng) (i k j n : Int) (hp : List AObj) (g : R.σ) (hx : formedB x = true) (hi : 0 ≤ i ∧ i < x.l.length) (hk : 0 ≤ k ∧ k < ((x.l.getD i.toNat default).l.length : Int)) :
  Does Tryd.prog R 42 [encMkt x gl, .int .i64 i, .int .i64 k, .int .i64 j, .int .i64 n] hp g (.ret (.bool (barsB x i k j n))) hp g := by
 have e := rel_len hx hi hk
 refine does_any' (fun R g => ?_) (by exact ⟨⟨⟨trivial, trivial⟩, trivial⟩, ⟨trivial, ⟨trivial, ⟨trivial, ⟨trivial, trivial⟩⟩⟩⟩⟩) R hp g
 refine spec_of_wp (nt := 23) (rs := [.tmp 10]) (k0 := 0) (by kernel_rfl) (by kernel_rfl) (by kernel_rfl) rfl ?_
 refine vcQ [] (lkL [(0, [1, 2, 5, 8, 9]), (1, [10])]) (lkL [(1, [(11, ROrc.kcall (AV.bool (List.any ((x.l.getD (i.toNat) default).l.getD (k.toNat) default).bars.l fun (r : Rng) => decide (r.pack = j) && decide (r.low ≤ n ∧ n ≤ r.high))))])]) (fun Q => (fun (u1 : List AObj) => (fun (u2 : AV) => 1 ≤ 2 ∧ (0 ≤ i ∧ i < (x.l.length : Int)) ∧ 1 ≤ 1 ∧ (0 ≤ k ∧ k < (↑((x.l.getD (i.toNat) default).l.length) : Int)) ∧ 1 ≤ 1 ∧ (true = true ∧ Does Tryd.prog R 24 [encR ((x.l.getD (i.toNat) default).l.getD (k.toNat) default).bars, fn 78 0 (nth []) 2 (nth [ref 1 0, ref 2 0])] u1 g (ret u2) u1 g) ∧ Q AEx.ret (St.mk [(10, u2)] u1 g)) (AV.bool (List.any ((x.l.getD (i.toNat) default).l.getD (k.toNat) default).bars.l fun (r : Rng) => decide (r.pack = j) && decide (r.low ≤ n ∧ n ≤ r.high)))) ([cells false 2 (nth [encPacks x, encR gl]), cells false 1 fun (a : Nat) => int i64 j, cells false 1 fun (a : Nat) => int i64 n])) (fun _ => by kernel_rfl) ⟨(by omega), ⟨(by omega), ⟨(by omega), ⟨(by omega), ⟨(by omega), ⟨⟨rfl, (Go.Avm.Pack.c_ContainsFuncF_PackRange _ _ _ _ _ _ _ _ _ _ (by omega) (by kernel_rfl) (fun r _ => (does_sub' [1, 2] 3 (fun R g => Go.Avm.Pack.c_barred1 R (r) (j) (n) g) rfl rfl rfl (by exact ⟨⟨rfl, Nat.le_refl _, fun j hj => match j, hj with | 0, _ => (Le.refl _) ⟩, ⟨⟨rfl, Nat.le_refl _, fun j hj => match j, hj with | 0, _ => (Le.refl _) ⟩, trivial⟩⟩) (by exact ⟨by omega, ⟨by omega, trivial⟩⟩) (by exact ⟨le_ren (by exact ⟨⟨⟨trivial, trivial⟩, trivial⟩, trivial⟩), ⟨(Le.refl _), ⟨(Le.refl _), trivial⟩⟩⟩) (by exact le_unren (by exact trivial)) (by exact ⟨LeO.rflc, ⟨⟨rfl, Nat.le_refl _, fun j hj => match j, hj with | 0, _ => (Le.refl _) ⟩, ⟨⟨rfl, Nat.le_refl _, fun j hj => match j, hj with | 0, _ => (Le.refl _) ⟩, trivial⟩⟩⟩))))⟩, ?_⟩⟩⟩⟩⟩⟩
 refine (retQ_le (retQ_drop _ _ rfl trivial trivial rfl) (Le.of_eq (by kernel_rfl)))
def needB (x : Ix) (L : Nat → Nat) (i k : Int) (r : Rng) : Bool := (memS (L r.pack.toNat)).any fun n => decide (r.low ≤ (n : Int) ∧ (n : Int) ≤ r.high) && !barsB x i k r.pack n && !barsB x r.pack n i k
def setsL (x : Ix) (L : Nat → Nat) : Prop := ∀ j, L j < 32 ∧ (x.l.length ≤ j → L j = 0) ∧ ∀ n, n ∈ memS (L j) → n < (x.l.getD j default).l.length
theorem below_rngC {r : Rng} (j : Nat) {m : Nat} : Below m (rngC r j) := match j with
 | 0 => trivial
 | 1 => trivial
 | 2 => trivial
 | _ + 3 => trivial
theorem below_mkt {x : Ix} {gl : KL Rng} (j : Nat) {m : Nat} : Below m (nth [encPacks x, encR gl] j) := match j with
 | 0 => trivial
 | 1 => trivial
 | _ + 2 => trivial
def atB (e : Nat → Bool) (l : List Nat) : Nat → Bool
 | 0 => false
 | j + 1 => e (l.getD j 0)
theorem c_Trim1 (R : Res) [Tab LT R] (x : Ix) (gl : KL Rng) (L : Nat → Nat) (i k : Int) (r : Rng) (g : R.σ) (hx : formedB x = true) (hL : setsL x L) (hi : 0 ≤ i ∧ i < x.l.length) (hk : 0 ≤ k ∧ k < ((x.l.getD i.toNat default).l.length : Int)) (hr : 0 ≤ r.pack ∧ r.pack < x.l.length) :
  Does Tryd.prog R 40 [encRng r, .ref 0 0, .ref 1 0, .ref 2 0, .ref 3 0] [.cells false 8 (fun j => .int .u64 (L j)), .cells false 2 (nth [encPacks x, encR gl]), .cells false 1 (fun _ => .int .i64 i), .cells false 1 (fun _ => .int .i64 k)] g
   (.ret (.bool (needB x L i k r))) [.cells false 8 (fun j => .int .u64 (L j)), .cells false 2 (nth [encPacks x, encR gl]), .cells false 1 (fun _ => .int .i64 i), .cells false 1 (fun _ => .int .i64 k)] g := by
 have h8 := (formed_le hx).2
 have hs := (hL r.pack.toNat).1
 refine spec_of_wp (nt := 40) (rs := [.cell 6 4]) (k0 := 4) (by kernel_rfl) (by kernel_rfl) (by kernel_rfl) rfl ?_
 obtain ⟨l, hl⟩ : ∃ l, memS (L r.pack.toNat) = l := ⟨_, rfl⟩
 obtain ⟨e, he⟩ : ∃ e : Nat → Bool, e = fun (n : Nat) => decide (r.low ≤ (n : Int) ∧ (n : Int) ≤ r.high) && !barsB x i k r.pack n && !barsB x r.pack n i k := ⟨_, rfl⟩
 have hseq := seq_members (L r.pack.toNat) hs
 rw [hl] at hseq
 have hin := (hL r.pack.toNat).2.2
 rw [hl] at hin
 have hres : needB x L i k r = l.any e := by unfold needB; rw [hl, he]
 rw [hres]
 refine vcQ [] (lkL [(0, [1, 2, 3, 4, 5, 6]), (1, [2, 3, 4, 5, 6, 12])]) (lkL [(1, [(4, ROrc.call (fn 75 0 (nth []) 1 (nth [ref (List.length [cells false 8 fun (j : Nat) => int u64 (↑(L j) : Int), cells false 2 (nth [encPacks x, encR gl]), cells false 1 fun (x : Nat) => int i64 i, cells false 1 fun (x : Nat) => int i64 k, cells false 3 (nth [int i64 r.pack, int i64 r.low, int i64 r.high]), cells false 1 fun (a : Nat) => AV.bool false]) 0])) ([cells false 8 fun (j : Nat) => int u64 (↑(L j) : Int), cells false 2 (nth [encPacks x, encR gl]), cells false 1 fun (x : Nat) => int i64 i, cells false 1 fun (x : Nat) => int i64 k, cells false 3 (nth [int i64 r.pack, int i64 r.low, int i64 r.high]), cells false 1 fun (a : Nat) => AV.bool false] ++ [cells false 1 fun (x : Nat) => int u64 (↑(L (r.pack.toNat)) : Int)]) g)])]) (fun Q => (fun (u1 : List AObj) => 1 ≤ 3 ∧ (0 ≤ r.pack ∧ r.pack < (↑8 : Int)) ∧ r.pack.toNat + 1 ≤ 8 ∧ (true = true ∧ Does Tryd.prog R 38 [int u64 (↑(L (r.pack.toNat)) : Int)] [cells false 8 fun (j : Nat) => int u64 (↑(L j) : Int), cells false 2 (nth [encPacks x, encR gl]), cells false 1 fun (x : Nat) => int i64 i, cells false 1 fun (x : Nat) => int i64 k, cells false 3 (nth [int i64 r.pack, int i64 r.low, int i64 r.high]), cells false 1 fun (a : Nat) => AV.bool false] g (ret (fn 75 0 (nth []) 1 (nth [ref 6 0]))) u1 g) ∧ Wp Tryd.prog R 40 4 Rd.top (bodyOf Tryd.prog 40) [1, 0, 1, 0] (contQ Tryd.prog R 40 4 Rd.top (bodyOf Tryd.prog 40) Q [Kont.blk 0, Kont.seq [1, 1]]) (St.mk [(2, ref 1 0), (3, ref 2 0), (4, ref 3 0), (5, ref 4 0), (6, ref 5 0), (12, fn 75 0 (nth []) 1 (nth [ref 6 0]))] u1 g)) ([cells false 8 fun (j : Nat) => int u64 (↑(L j) : Int), cells false 2 (nth [encPacks x, encR gl]), cells false 1 fun (x : Nat) => int i64 i, cells false 1 fun (x : Nat) => int i64 k, cells false 3 (nth [int i64 r.pack, int i64 r.low, int i64 r.high]), cells false 1 fun (a : Nat) => AV.bool false, cells false 1 fun (x : Nat) => int u64 (↑(L (r.pack.toNat)) : Int)])) (fun _ => by kernel_rfl) ⟨(by omega), ⟨(by omega), ⟨(by omega), ⟨⟨rfl, (Go.Avm.Pack.c_members _ _ _ _)⟩, ?_⟩⟩⟩⟩
 refine wp_range1 12 [13] 6 (by kernel_rfl) rfl rfl rfl hseq (fun _ => rfl) (by kernel_rfl) (fun _ => ⟨trivial, trivial⟩)
  (fun j => if e (l.getD j 0) then some Code.ret else none) (fun j => by cases e (l.getD j 0) <;> rfl)
  (fun j => [.cells false 8 (fun j => .int .u64 (L j)), .cells false 2 (nth [encPacks x, encR gl]), .cells false 1 (fun _ => .int .i64 i), .cells false 1 (fun _ => .int .i64 k), .cells false 3 (rngC r), .cells false 1 (fun _ => .bool (atB e l j))])
  (fun _ => g) (to_hp rfl rfl) (fun _ => rfl) (by exact ⟨by omega, by omega, by omega, by omega, by omega, by omega, by omega, trivial⟩) (by exact ⟨fun _ _ => trivial, fun j _ => below_mkt j, fun _ _ => trivial, fun _ _ => trivial, fun j _ => below_rngC j, fun _ _ => trivial, trivial⟩) (by exact ⟨fun _ _ => trivial, trivial⟩) [2, 3, 4, 5, 6] (by exact ⟨show 1 < 6 by omega, show 2 < 6 by omega, show 3 < 6 by omega, show 4 < 6 by omega, show 5 < 6 by omega, trivial⟩) (fun j l' hj hjj => ?_) (fun hj => ?_) (fun j hj hjj hr' => ?_) (fun j id hj hjj hr' => ?_)
 ·refine vcQ [] (lkL [(2, [2, 3, 4, 5, 6, 7])]) (fun _ => []) (fun Q => Q AEx.normal (St.mk [(2, ref 1 0), (3, ref 2 0), (4, ref 3 0), (5, ref 4 0), (6, ref 5 0), (7, int i64 (↑(l.getD j 0) : Int))] [cells false 8 fun (j : Nat) => int u64 (↑(L j) : Int), cells false 2 (nth [encPacks x, encR gl]), cells false 1 fun (x : Nat) => int i64 i, cells false 1 fun (x : Nat) => int i64 k, cells false 3 (rngC r), cells false 1 fun (x : Nat) => AV.bool (atB e l j)] g)) (fun _ => by kernel_rfl) (?_)
  show Wp _ _ _ 6 _ _ _ _ _
  obtain ⟨n, hn⟩ : ∃ n, l.getD j 0 = n := ⟨_, rfl⟩
  have hnlt : n < (x.l.getD r.pack.toNat default).l.length := by rw [← hn]; exact hin _ (getD_mem _ _ hj)
  have hcell : atB e l j = false := by
   cases j with
   | zero => rfl
   | succ j' =>
     have := hjj j' (by omega)
     show e (l.getD j' 0) = false
     cases h : e (l.getD j' 0) with
     | false => rfl
     | true => rw [h] at this; cases this
  have hen : e n = (decide (r.low ≤ (n : Int) ∧ (n : Int) ≤ r.high) && !barsB x i k r.pack n && !barsB x r.pack n i k) := by rw [he]
  rw [hcell]
  simp only [hn]
  refine vcQ [] (lkL [(3, [6, 39]), (4, [6])]) (lkL [(3, [(5, ROrc.pcall (AV.bool (decide (r.low ≤ (n : Int) ∧ (n : Int) ≤ r.high)))), (13, ROrc.pcall (AV.bool (barsB x i k r.pack (n : Int)))), (23, ROrc.pcall (AV.bool (barsB x r.pack (n : Int) i k)))]), (4, [(0, ROrc.val (Orc.obj (nth [AV.bool true])))])]) (fun Q => (fun (u1 : Int) => (fun (u2 : Bool) => (fun (u3 : Bool) => (fun (u4 : Bool) => (fun (u5 : AObj) => 2 ≤ 3 ∧ 3 ≤ 3 ∧ (∀ (hp : List AObj) (g : R.σ), true = true ∧ Does Tryd.prog R 41 [int i64 u1, int i64 r.low, int i64 r.high] hp g (ret (AV.bool u3)) hp g) ∧ (u3 = true → 2 ≤ 2) ∧ (u3 = true → 1 ≤ 1) ∧ (u3 = true → 1 ≤ 1) ∧ (u3 = true → 1 ≤ 3) ∧ (u3 = true → ∀ (hp : List AObj) (g : R.σ), true = true ∧ Does Tryd.prog R 42 [encMkt x gl, int i64 i, int i64 k, int i64 r.pack, int i64 u1] hp g (ret (AV.bool (barsB x i k r.pack u1))) hp g) ∧ (u2 = true → 2 ≤ 2) ∧ (u2 = true → 1 ≤ 3) ∧ (u2 = true → 1 ≤ 1) ∧ (u2 = true → 1 ≤ 1) ∧ (u2 = true → ∀ (hp : List AObj) (g : R.σ), true = true ∧ Does Tryd.prog R 42 [encMkt x gl, int i64 r.pack, int i64 u1, int i64 i, int i64 k] hp g (ret (AV.bool (barsB x r.pack u1 i k))) hp g) ∧ (u4 = true → 1 ≤ 1 ∧ (∀ (c : Nat), c < 1 → nth [AV.bool true] c = over (fun (x : Nat) => AV.bool false) 0 1 (fun (x : Nat) => AV.bool true) c) ∧ Q AEx.ret (St.mk [(6, ref 5 0)] [u5, cells false 2 (nth [encPacks x, encR gl]), cells false 1 fun (x : Nat) => int i64 i, cells false 1 fun (x : Nat) => int i64 k, cells false 3 (rngC r), cells false 1 (nth [AV.bool true])] g)) ∧ (u4 = false → Q AEx.normal (St.mk [(6, ref 5 0), (39, AV.bool u4)] [u5, cells false 2 (nth [encPacks x, encR gl]), cells false 1 fun (x : Nat) => int i64 i, cells false 1 fun (x : Nat) => int i64 k, cells false 3 (rngC r), cells false 1 fun (x : Nat) => AV.bool false] g))) (cells false 8 fun (j : Nat) => int u64 (↑(L j) : Int))) (bif u2 then !barsB x r.pack u1 i k else false)) (decide (r.low ≤ u1 ∧ u1 ≤ r.high))) (bif decide (r.low ≤ u1 ∧ u1 ≤ r.high) then !barsB x i k r.pack u1 else false)) ((n : Int))) (fun _ => by kernel_rfl) ⟨(by omega), ⟨(by omega), ⟨(fun _ _ => ⟨rfl, (Go.Avm.Pack.c_within _ _ _ _ _ _)⟩), ⟨(by omega), ⟨(by omega), ⟨(by omega), ⟨(by omega), ⟨(fun hgd => (fun _ _ => ⟨rfl, (Go.Avm.Pack.c_barred _ _ _ _ _ _ _ _ _ (by omega) (by omega) (by omega))⟩)), ⟨(by omega), ⟨(by omega), ⟨(by omega), ⟨(by omega), ⟨(fun hgd => (fun _ _ => ⟨rfl, (Go.Avm.Pack.c_barred _ _ _ _ _ _ _ _ _ (by omega) (by omega) (by omega))⟩)), ⟨fun c1 => have c1 : ((r.low ≤ (n : Int) ∧ (n : Int) ≤ r.high) ∧ barsB x i k r.pack (n : Int) = false) ∧ barsB x r.pack (n : Int) i k = false := ⟨⟨(of_decide_eq_true (cA_t (cA_t c1).1).1), ((Bool.not_eq_true' _).mp (cA_t (cA_t c1).1).2)⟩, ((Bool.not_eq_true' _).mp (cA_t c1).2)⟩; ⟨(by omega), ⟨(fun c hc => match c, hc with | 0, _ => (by kernel_rfl) ), ?_⟩⟩, fun c1 => have c1 : (¬(r.low ≤ (n : Int) ∧ (n : Int) ≤ r.high) ∨ barsB x i k r.pack (n : Int) = true) ∨ barsB x r.pack (n : Int) i k = true := ((cA_f c1).imp (fun h => ((cA_f h).imp (fun h => (of_decide_eq_false h)) (fun h => ((Bool.not_eq_false' _).mp h)))) (fun h => ((Bool.not_eq_false' _).mp h))); ?_⟩⟩⟩⟩⟩⟩⟩⟩⟩⟩⟩⟩⟩⟩
  ·have ht : e n = true := by rw [hen, decide_eq_true c1.1.1, c1.1.2, c1.2]; rfl
   rw [show atB e l (j + 1) = e n by rw [← hn]; rfl, ht]
   refine (rnd_ret rfl (to_le trivial ⟨LeO.rflc, ⟨LeO.rflc, ⟨LeO.rflc, ⟨LeO.rflc, ⟨LeO.rflc, ⟨⟨rfl, Nat.le_refl _, fun j hj => match j, hj with | 0, _ => (Le.refl _) ⟩, trivial⟩⟩⟩⟩⟩⟩ rfl))
  ·have ht : e n = false := by
    rw [hen]
    rcases c1 with (h | h) | h
    ·rw [decide_eq_false h]; rfl
    ·rw [h]; cases decide (r.low ≤ (n : Int) ∧ (n : Int) ≤ r.high) <;> rfl
    ·rw [h]; simp
   rw [show atB e l (j + 1) = e n by rw [← hn]; rfl, ht]
   refine (rnd_next rfl (to_fr trivial rfl rfl))
 ·have hall : l.any e = false := by
   rw [List.any_eq_false]
   intro n hn
   obtain ⟨j, hj', rfl⟩ := List.getElem_of_mem hn
   have := hj j hj'
   cases h : e l[j] with
   | false => simp
   | true =>
     rw [List.getD_eq_getElem?_getD, List.getElem?_eq_getElem hj', Option.getD_some, h] at this
     cases this
  rw [hall]
  refine vcQ [] (lkL [(5, [6])]) (lkL [(5, [(0, ROrc.val (Orc.obj (nth [AV.bool false])))])]) (fun Q => 1 ≤ 1 ∧ (∀ (c : Nat), c < 1 → nth [AV.bool false] c = over (fun (x : Nat) => AV.bool (atB e l (l.length))) 0 1 (fun (x : Nat) => AV.bool false) c) ∧ Q AEx.ret (St.mk [(6, ref 5 0)] [cells false 8 fun (j : Nat) => int u64 (↑(L j) : Int), cells false 2 (nth [encPacks x, encR gl]), cells false 1 fun (x : Nat) => int i64 i, cells false 1 fun (x : Nat) => int i64 k, cells false 3 (rngC r), cells false 1 (nth [AV.bool false]), dead] g)) (fun _ => by kernel_rfl) ⟨(by omega), ⟨(fun c hc => match c, hc with | 0, _ => (by kernel_rfl) ), ?_⟩⟩
  refine (retQ_le (retQ_take' 4 (AV.bool false) ([0 + (TyI.mk (TypeInfo.mk TypeDesc.bool "bool" 1 1 false 1 1 (some (Value.bool false)) true #[]).desc Tryd.prog.types[4].size Tryd.prog.types[4].bytes (cellA (ofVal (Value.bool false))) (isAggD (TypeInfo.mk TypeDesc.bool "bool" 1 1 false 1 1 (some (Value.bool false)) true #[]).desc) (flatTy Tryd.prog 4)).size ≤ 1]) (by kernel_rfl) (by exact ⟨(by decide), trivial⟩) (by omega) trivial ⟨(fun j hj => match j, hj with | 0, _ => trivial | 1, _ => trivial | 2, _ => trivial | 3, _ => trivial | 4, _ => trivial | 5, _ => trivial | 6, _ => trivial | 7, _ => trivial ), ⟨(fun j hj => match j, hj with | 0, _ => trivial | 1, _ => trivial ), ⟨(fun j hj => match j, hj with | 0, _ => trivial ), ⟨(fun j hj => match j, hj with | 0, _ => trivial ), trivial⟩⟩⟩⟩ (by kernel_rfl) rfl rfl) (Le.refl _))
 ·have hej : e (l.getD j 0) = true := by
   cases h : e (l.getD j 0) with
   | true => rfl
   | false => rw [h] at hr'; cases hr'
  have hany : l.any e = true := List.any_eq_true.2 ⟨_, getD_mem _ _ hj, hej⟩
  rw [hany]
  have h2 : atB e l (j + 1) = true := hej
  simp only [h2]
  refine (retQ_le (retQ_take' 4 (AV.bool true) ([0 + (TyI.mk (TypeInfo.mk TypeDesc.bool "bool" 1 1 false 1 1 (some (Value.bool false)) true #[]).desc Tryd.prog.types[4].size Tryd.prog.types[4].bytes (cellA (ofVal (Value.bool false))) (isAggD (TypeInfo.mk TypeDesc.bool "bool" 1 1 false 1 1 (some (Value.bool false)) true #[]).desc) (flatTy Tryd.prog 4)).size ≤ 1]) (by kernel_rfl) (by exact ⟨(by decide), trivial⟩) (by omega) trivial ⟨(fun j hj => match j, hj with | 0, _ => trivial | 1, _ => trivial | 2, _ => trivial | 3, _ => trivial | 4, _ => trivial | 5, _ => trivial | 6, _ => trivial | 7, _ => trivial ), ⟨(fun j hj => match j, hj with | 0, _ => trivial | 1, _ => trivial ), ⟨(fun j hj => match j, hj with | 0, _ => trivial ), ⟨(fun j hj => match j, hj with | 0, _ => trivial ), trivial⟩⟩⟩⟩ (by kernel_rfl) rfl rfl) (Le.refl _))
 ·cases h : e (l.getD j 0) with
  | true => rw [h] at hr'; cases hr'
  | false => rw [h] at hr'; cases hr'
def clrS (s k : Nat) : Nat := if s.testBit k then s - 2 ^ k else s
theorem clrU (s k : Nat) (hs : s < 32) (hk : k < 5) : (AV.int .u64 (IntKind.u64.wrap (BitVec.ofInt 64 (s : Int) &&& ~~~ (BitVec.ofInt 64 (IntKind.u64.wrap (1 * 2 ^ (min (k : Int).toNat 64))))).toNat)) = .int .u64 ((clrS s k : Nat) : Int) := by
 have h := forS (p := fun s => (List.range 5).all fun k => decide (IntKind.u64.wrap (BitVec.ofInt 64 (s : Int) &&& ~~~ (BitVec.ofInt 64 (IntKind.u64.wrap (1 * 2 ^ (min (k : Int).toNat 64))))).toNat = ((clrS s k : Nat) : Int))) (by decide) s hs
 have := (List.all_eq_true.1 h) k (by simpa using hk)
 rw [of_decide_eq_true this]
theorem fullU (n : Nat) (hn : n ≤ 5) : (AV.int .u64 (IntKind.u64.wrap (IntKind.u64.wrap (1 * 2 ^ (min (n : Int).toNat 64)) - 1))) = .int .u64 ((2 ^ n - 1 : Nat) : Int) := by
 have h : (List.range 6).all (fun n => decide (IntKind.u64.wrap (IntKind.u64.wrap (1 * 2 ^ (min (n : Int).toNat 64)) - 1) = ((2 ^ n - 1 : Nat) : Int))) = true := by decide
 have := (List.all_eq_true.1 h) n (by simp; omega)
 rw [of_decide_eq_true this]
def updN (L : Nat → Nat) (i v : Nat) : Nat → Nat := fun j => if j = i then v else L j
def dropK (x : Ix) (i : Nat) (L : Nat → Nat) (k : Nat) : Nat → Nat := if ((x.l.getD i default).l.getD k default).needs.l.all (needB x L i k) then L else updN L i (clrS (L i) k)
def dropI (x : Ix) (B : Nat → Nat) (L : Nat → Nat) (i : Nat) : Nat → Nat := (memS (B i)).foldl (dropK x i) L
def roundN (x : Ix) (B : Nat → Nat) : Nat → Nat → Nat
 | 0 => B
 | i + 1 => dropI x B (roundN x B i) i
def fullN (x : Ix) (n : Nat) : Nat → Nat := fun j => if j < n then 2 ^ (x.l.getD j default).l.length - 1 else 0
def trimN (x : Ix) : Nat → Nat → Nat
 | 0 => fullN x x.l.length
 | n + 1 => roundN x (trimN x n) x.l.length
end Go.Avm.Pack
namespace Go.Avm.Pack
open Go Go.Avm Go.Proofs
open Go.IntKind (i64 u64)
open Go.Avm.AV (int bool any fz fp sl ow ref fn ifc val agg tup)
open Go.Avm.AObj (cells dead)
open Go.Avm.Oc (ret)
set_option maxRecDepth 4000
end Go.Avm.Pack
namespace Go.Proofs
open Go Go.Shelf
def Tryd.collectL_ren : Ren := ⟨fun | 8 => 43 | 11 => 79 | n => n, fun | 26 => 3 | 28 => 78 | 24 => 43 | 0 => 0 | 33 => 57 | 4 => 4 | n => n, fun n => n⟩
theorem Tryd.collectL : SlLaysZI.n8 Tryd.prog Tryd.collectL_ren where
  mixed := by kernel_rfl
  f8 := ⟨Tryd.f43.name, by kernel_rfl, Tryd.func43.trans (congrArg some (by kernel_rfl))⟩
  f11 := ⟨Tryd.f79.name, by kernel_rfl, Tryd.func79.trans (congrArg some (by kernel_rfl))⟩
  t0 := Tryd.underlying0
  a0 := Tryd.isAgg0
  z0 := Tryd.sizeOf0
  v0 := Tryd.zeroValue0
  t24 := Tryd.underlying43
  a24 := Tryd.isAgg43
  z24 := Tryd.sizeOf43
  v24 := Tryd.zeroValue43
  t26 := Tryd.underlying3
  a26 := Tryd.isAgg3
  z26 := Tryd.sizeOf3
  v26 := Tryd.zeroValue3
  t28 := Tryd.underlying78
  a28 := Tryd.isAgg78
  z28 := Tryd.sizeOf78
  v28 := Tryd.zeroValue78
  i26 := by kernel_rfl
end Go.Proofs
namespace Go.Avm.Pack
open Go Go.Avm Go.Proofs Go.RowKit Go.Shelf
attribute [local go_sem] Oper.semAt_some
theorem tz_calls (n s : Nat) (h0 : 0 < s) (h1 : s < 32) (W : World) (FM : Mem) (hFM : ∀ b o, FM b = some o → W.heap[b]? = some o) (ht : Tabs gsT FM) :
  CallsIn Fence.wide n Tryd.prog 76 #[.int .u64 s] W fun e W' => e = .returned (.int .i64 (memS s).head!) ∧ W.grownBy W' none := by
 have okh : Ok (Res.tab gsT) [] () FM [] W := ⟨⟨hFM, rfl, fun i p h => (by simp at h), fun i j p q h => (by simp at h)⟩, ht, fun b h => h.elim⟩
 refine callsIn_wide.2 (((c_TrailingZeros (Res.tab gsT) s h0 h1 ()).h FM [] W #[.int .u64 s] okh ⟨rfl, fun i hi => ?_⟩).mono ?_)
 ·have : i = 0 := by simpa using hi
  subst this
  rfl
 ·rintro e W' ⟨FM', ρ', ⟨v, he, hv⟩, okh', go⟩
  refine ⟨by rw [he, show v = _ from hv], go.ext.os, go.ext.tape, go.ext.output, go.ext.size, fun k hk _ => go.ext.keep k hk (fun ⟨p, hp, _⟩ => by cases hp) (fun h => h)⟩
theorem and_bits (s : Nat) (hs : s < 32) (h0 : 0 < s) : bits .and .u64 ((s : Nat) : Int) (((s : Nat) : Int) - 1) = ((s &&& (s - 1) : Nat) : Int) := by
 have h := forS (p := fun s => decide (0 < s → bits .and .u64 ((s : Nat) : Int) (((s : Nat) : Int) - 1) = ((s &&& (s - 1) : Nat) : Int))) (by decide) s hs
 exact of_decide_eq_true h h0
theorem members_raw (n : Nat) (hn : 1 ≤ n) (l s : Nat) (hs : s < 32) (A : Addr) (FM : Mem) (ht : Tabs gsT FM) (J : Nat → World → Prop)
  (hJ : ∀ k W, J k W → W.cell? A = some (.int .u64 (cutS s k)) ∧ W.frozen? A = false ∧ (∀ b o, FM b = some o → W.heap[b]? = some o))
  (hJg : ∀ k W W', J k W → W.grownBy W' none → J k W')
  (hY : ∀ k W, k < (memS s).length → J k W → YieldAt Fence.wide (n - 1) Tryd.prog l #[.int .i64 ((memS s).getD k 0)] W fun e W' => e = .returned (.bool true) ∧ W'.cell? A = some (.int .u64 (cutS s k)) ∧ W'.frozen? A = false ∧ J (k + 1) (W'.setCell A (.int .u64 (cutS s (k + 1)))))
  (W : World) (h0 : J 0 W) :
  CallsIn Fence.wide n Tryd.prog 75 #[.func (.yield l) #[] #[], .pointer (some A)] W fun e W' => (∃ v, e = .returned v) ∧ J (memS s).length W' := by
 refine callsIn_of_wp Tryd.func75 rfl trivial ?_ rfl
 simp only [Tryd.ntmps75, List.size_toArray, List.length_cons, List.length_nil, Nat.reduceAdd, Nat.reduceSub, Array.replicate_succ, Array.replicate_zero, List.push_toArray, List.append_toArray, List.nil_append, List.cons_append]
 gi_wp2
 gi_loopw [] (fun wr => ∃ k, k ≤ (memS s).length ∧ J k wr) (fun wr => match wr.cell? A with | some (.int _ v) => v.toNat | _ => 0)
 case atStart => exact ⟨0, Nat.zero_le _, h0⟩
 case round =>
  obtain ⟨k, hk, hJk⟩ := hrel
  obtain ⟨hc, hf, hFM⟩ := hJ k wr hJk
  have hlt := cutS_lt s hs k
  rcases Nat.lt_or_ge k (memS s).length with hkl | hkl
  ·obtain ⟨k1, k2⟩ := cutS_in s hs k hkl
   have hz : ¬ ((cutS s k : Nat) : Int) = 0 := by omega
   have htz := fun m => tz_calls m (cutS s k) k1 hlt wr FM hFM ht
   have hYk := fun W => hY k W hkl
   obtain ⟨x, hx⟩ : ∃ x, (memS s).getD k 0 = x := ⟨_, rfl⟩
   rw [hx] at k2
   simp only [hx] at hYk
   simp only [k2] at htz
   gi_wp2
   refine ⟨trivial, (htz _).mono ?_⟩
   rintro e w' ⟨rfl, hg⟩
   have hJ' := hJg k wr w' hJk hg
   obtain ⟨hc', hf', hFM'⟩ := hJ k w' hJ'
   obtain ⟨fn, tmps, assign, body, hy, hR⟩ := hYk w' hJ'
   dsimp only
   gi_wp2
   refine hR.mono ?_
   rintro e W3 ⟨rfl, hc3, hf3, hJ3⟩
   dsimp only
   gi_wp2
   have hb : bits .and .u64 ((cutS s k : Nat) : Int) (((cutS s k : Nat) : Int) - 1) = ((cutS s (k + 1) : Nat) : Int) := and_bits _ hlt k1
   rw [hb]
   refine ⟨⟨k + 1, hkl, hJ3⟩, ?_⟩
   rw [(hJ _ _ hJ3).1, hc]
   show ((cutS s (k + 1) : Nat) : Int).toNat < ((cutS s k : Nat) : Int).toNat
   have : cutS s (k + 1) ≤ cutS s k - 1 := Nat.and_le_right
   omega
  ·have hz : ((cutS s k : Nat) : Int) = 0 := by rw [show k = (memS s).length by omega, cutS_end s hs]; rfl
   have hkk : k = (memS s).length := by omega
   subst hkk
   gi_wp2
   go_end0
   exact ⟨⟨_, rfl⟩, hJk⟩
def itemsZ (s : Nat) : List Int := (memS s).map fun (n : Nat) => (n : Int)
def cutW (w : World) (A : Addr) (s : Nat) : Nat → World
 | 0 => w
 | k + 1 => (cutW w A s k).setCell A (.int .u64 (cutS s (k + 1)))
theorem cutW_size (w : World) (A : Addr) (s : Nat) : ∀ k, (cutW w A s k).heap.size = w.heap.size
 | 0 => rfl
 | k + 1 => by
   show ((cutW w A s k).heap.modify _ _).size = _
   rw [Array.size_modify, cutW_size w A s k]
theorem cutW_far (w : World) (A : Addr) (s : Nat) {b : Nat} (hb : b ≠ A.block) : ∀ k, (cutW w A s k).heap[b]? = w.heap[b]?
 | 0 => rfl
 | k + 1 => (RowKit.Below.heap_setCell _ _ _ b hb).trans (cutW_far w A s hb k)
theorem cutW_cell {w : World} {A : Addr} {s : Nat} (h : w.cell? A = some (.int .u64 s)) : ∀ k, (cutW w A s k).cell? A = some (.int .u64 (cutS s k))
 | 0 => h
 | k + 1 => World.cell?_setCell_same' _ _ _ (by rw [cutW_cell h k]; rfl)
theorem frozen_setCell (w : World) (A : Addr) (v : Value) : (w.setCell A v).frozen? A = w.frozen? A := by
 unfold World.frozen?
 show (match (w.heap.modify A.block _)[A.block]? with | some (.cells _ _ (lo, hi)) => _ | _ => _) = _
 rw [Array.getElem?_modify]
 simp only [if_true]
 cases h : w.heap[A.block]? with
 | none => rfl
 | some o => cases o <;> rfl
theorem cutW_frozen {w : World} {A : Addr} {s : Nat} (h : w.frozen? A = false) : ∀ k, (cutW w A s k).frozen? A = false
 | 0 => h
 | k + 1 => (frozen_setCell _ _ _).trans (cutW_frozen h k)
theorem grown_setCell (w : World) (A : Addr) (v : Value) : w.grownBy (w.setCell A v) (some A.block) :=
 ⟨rfl, rfl, rfl, by show _ ≤ (w.heap.modify _ _).size; rw [Array.size_modify]; exact Nat.le_refl _, fun k _ hk => RowKit.Below.heap_setCell _ _ _ k (fun e => hk (by rw [e]))⟩
theorem below_setCell {B : Nat} {w w' : World} (h : RowKit.Below B w w') (A : Addr) (v : Value) : RowKit.Below B (w.setCell A v) (w'.setCell A v) := by
 refine ⟨h.os, h.tape, h.output, ?_, fun k hk => ?_⟩
 ·show (w.heap.modify _ _).size ≤ (w'.heap.modify _ _).size
  rw [Array.size_modify, Array.size_modify]; exact h.size
 ·show (w'.heap.modify _ _)[k]? = (w.heap.modify _ _)[k]?
  rw [Array.getElem?_modify, Array.getElem?_modify, h.block k hk]
theorem itemsZ_take {s k : Nat} (hk : k < (memS s).length) : (itemsZ s).take k ++ [(((memS s).getD k 0 : Nat) : Int)] = (itemsZ s).take (k + 1) := by
 unfold itemsZ
 rw [List.take_add_one, List.getElem?_map, List.getElem?_eq_getElem hk, List.getD_eq_getElem?_getD, List.getElem?_eq_getElem hk]
 rfl
theorem itemsZ_len (s : Nat) : (itemsZ s).length = (memS s).length := by unfold itemsZ; simp
abbrev ρC : Ren := Tryd.collectL_ren
theorem memS_le (s : Nat) : (memS s).length ≤ 5 := by
 unfold memS
 exact Nat.le_trans (List.length_filter_le _ _) (by simp)
theorem append_raw (n : Nat) (hn : 2 ≤ n) (s : Nat) (hs : s < 32) (A : Addr) (FM : Mem) (ht : Tabs gsT FM) (w : World) (hFM : ∀ b o, FM b = some o → w.heap[b]? = some o) (hFA : FM A.block = none) (hc : w.cell? A = some (.int .u64 s)) (hf : w.frozen? A = false) :
  CallsIn Fence.wide n Tryd.prog 79 #[.slice none 0 0, .func (.func 75) #[] #[.pointer (some A)]] w fun e w' => ∃ v, e = .returned v ∧ w'.ownsRow w.heap.size 3 1 v (itemsZ s).length ((itemsZ s).map encZ) ∧ (v = .slice none 0 0 ↔ itemsZ s = []) ∧ RowKit.Below w.heap.size (cutW w A s (memS s).length) w' := by
 have L := Tryd.collectL
 have hAb : A.block < w.heap.size := by
  rcases Nat.lt_or_ge A.block w.heap.size with h | h
  ·exact h
  ·rw [World.cell?, Array.getElem?_eq_none h] at hc; cases hc
 refine callsIn_of_wp_marks Tryd.func79 rfl trivial ?_ rfl
 simp only [Tryd.ntmps79, List.size_toArray, List.length_cons, List.length_nil, Nat.reduceAdd, Nat.reduceSub, Array.replicate_succ, Array.replicate_zero, List.push_toArray, List.append_toArray, List.nil_append, List.cons_append]
 gi_wp2
 refine wpIn_rangeFunc ?_
 intro fn hfn
 have hne : ρC.t 24 ≠ ρC.t 26 := by decide
 obtain ⟨W0, hW0⟩ : ∃ W0, w.alloc (.cells #[.slice none 0 0] 43) = W0 := ⟨_, rfl⟩
 rw [show Fence.wide.round = none from rfl, hW0]
 obtain ⟨W1, hW1⟩ : ∃ W1, (W0.alloc (.deferred (some []))).alloc (.loop (AnyZI.apRec ρC fn (.func (.func 75) #[] #[.pointer (some A)]) w.heap.size W0.heap.size .ready none)) = W1 := ⟨_, rfl⟩
 have hs0 : W0.heap.size = w.heap.size + 1 := by rw [← hW0]; simp
 have hs1 : W1.heap.size = W0.heap.size + 2 := by rw [← hW1]; simp
 have hb0 : RowKit.Below w.heap.size w W0 := by rw [← hW0]; exact (RowKit.Below.refl _ w).alloc (Nat.le_refl _) _
 have hsA : w.heap.size ≠ A.block := by omega
 have hb1 : RowKit.Below w.heap.size w W1 := by rw [← hW1]; exact (hb0.alloc hb0.size _).alloc (by have := hb0.size; simp; omega) _
 have old : ∀ k, k < W0.heap.size → W1.heap[k]? = W0.heap[k]? := fun k hk => by
  rw [← hW1]; exact (RowKit.Below.heap_alloc _ _ k (by simp; omega)).trans (RowKit.Below.heap_alloc _ _ k hk)
 have hbox : W1.heap[w.heap.size]? = some (.cells #[.slice none 0 0] (ρC.t 24) (0, 0)) := (old _ (by omega)).trans (by rw [← hW0]; exact World.alloc_heap_new w _)
 have hD : W1.heap[W0.heap.size]? = some (.deferred (some [])) := by rw [← hW1]; exact (RowKit.Below.heap_alloc _ _ _ (by simp)).trans (World.alloc_heap_new W0 _)
 have hL : W1.heap[W0.heap.size + 1]? = some (.loop (AnyZI.apRec ρC fn (.func (.func 75) #[] #[.pointer (some A)]) w.heap.size W0.heap.size .ready none)) := by
  rw [← hW1]
  have := World.alloc_heap_new (W0.alloc (.deferred (some []))) (.loop (AnyZI.apRec ρC fn (.func (.func 75) #[] #[.pointer (some A)]) w.heap.size W0.heap.size .ready none))
  rwa [World.size_alloc] at this
 let J : Nat → World → Prop := fun k W => AnyZI.ApAt ρC (cutW w A s k) fn (.func (.func 75) #[] #[.pointer (some A)]) w.heap.size (W0.heap.size + 1) W0.heap.size ((itemsZ s).take k) W
 have hJ : ∀ k W, J k W → W.cell? A = some (.int .u64 (cutS s k)) ∧ W.frozen? A = false ∧ (∀ b o, FM b = some o → W.heap[b]? = some o) := fun k W h => by
  have hb := h.below
  rw [cutW_size] at hb
  refine ⟨(hb.cell hAb).trans (cutW_cell hc k), (hb.frozen hAb).trans (cutW_frozen hf k), fun b o hbo => ?_⟩
  have h1 := hFM b o hbo
  rw [hb.block b (Array.getElem?_eq_some_iff.1 h1).1, cutW_far w A s (fun e => by rw [e, hFA] at hbo; cases hbo), h1]
 have hJ0 : J 0 W1 := ⟨⟨_, hbox, ⟨by simp, .inl ⟨rfl, by simp⟩⟩, by simp⟩, hL, hD, hb1⟩
 refine ⟨W0.heap.size + 1, [{ target := .collected W0.heap.size, args := #[] }], W1, { target := .fn (.func 75) #[.pointer (some A)], args := #[.func (.yield (W0.heap.size + 1)) #[] #[]] }, W1, 75,
  #[.func (.yield (W0.heap.size + 1)) #[] #[], .pointer (some A)], W1, ?_, ?_, ?_, ?_, fun _ => (by omega), (members_raw (n - 1) (by omega) (W0.heap.size + 1) s hs A FM ht J hJ (fun k W W' h hg => ?_) (fun k W hk h => ?_) W1 hJ0).mono ?_⟩
 ·rw [← hW1]; exact run_enterLoop_outer _ _ _ _ _
 ·simp [resolve, go_sem]
 ·intro f' hf'; trivial
 ·simp [invoke, go_sem]
 ·exact AnyZI.ap_abides ρC _ _ _ _ _ _ _ (Nat.le_refl _) _ _ _ none h hg (fun r e => by cases e)
 ·have hlen : ((itemsZ s).take k).length < 5 := by
   have := memS_le s
   rw [List.length_take, itemsZ_len]; omega
  obtain ⟨fn', tmps, assign, body, hy, hR⟩ := AnyZI.apYield (ρ := ρC) { L with } Fence.wide (n - 1 - 1) (cutW w A s k) fn hfn (.func (.func 75) #[] #[.pointer (some A)]) w.heap.size (W0.heap.size + 1) W0.heap.size (by omega) (by omega) (by omega) (by rw [cutW_size]; exact Nat.le_refl _) (by rw [cutW_size]; omega) 5 (by decide) (by decide) ((itemsZ s).take k) (((memS s).getD k 0 : Nat) : Int) W h hlen
  refine ⟨fn', tmps, assign, body, hy, hR.mono ?_⟩
  rintro e W' ⟨he, h', hk'⟩
  obtain ⟨v, hv, hrow, hnil⟩ := h'.box
  have hb' := h'.below
  rw [cutW_size] at hb'
  refine ⟨he, (hb'.cell hAb).trans (cutW_cell hc k), (hb'.frozen hAb).trans (cutW_frozen hf k), ?_⟩
  have hgs := grown_setCell W' A (.int .u64 (cutS s (k + 1)))
  rw [itemsZ_take hk] at hrow hnil
  refine ⟨⟨v, (RowKit.Below.heap_setCell _ _ _ _ hsA).trans hv, ?_, hnil⟩, (RowKit.Below.heap_setCell _ _ _ _ (by omega)).trans h'.L, (RowKit.Below.heap_setCell _ _ _ _ (by omega)).trans h'.K, ?_⟩
  ·rw [cutW_size] at hrow ⊢
   refine hrow.kept hgs ?_
   rcases hrow.2 with ⟨rfl, _⟩ | ⟨g, cap, cur, rfl, hg, _⟩
   ·exact .inl rfl
   ·refine .inr (fun e => ?_)
    have : g = A.block := by simpa [Value.ownBlock] using e
    omega
  ·rw [cutW_size]
   exact below_setCell hb' A _
 ·rintro e W2 ⟨⟨v0, rfl⟩, h2⟩
  have h2 : J (memS s).length W2 := h2
  obtain ⟨v, hv, hrow, hnil⟩ := h2.box
  rw [show (itemsZ s).take (memS s).length = itemsZ s by rw [← itemsZ_len, List.take_length]] at hrow hnil
  rw [cutW_size] at hrow
  have hb2 := h2.below
  rw [cutW_size] at hb2
  have hend := run_endLoop (P := Tryd.prog) h2.L (by simp [AnyZI.apRec])
  obtain ⟨W3, hW3⟩ : ∃ W3, W2.putObj (W0.heap.size + 1) (.loop { AnyZI.apRec ρC fn (.func (.func 75) #[] #[.pointer (some A)]) w.heap.size W0.heap.size .ready none with state := .exhausted }) = W3 := ⟨_, rfl⟩
  rw [hW3] at hend
  have hg3 : W2.grownBy W3 (some (W0.heap.size + 1)) := by rw [← hW3]; exact grownBy_putObj_a _ _ _
  have hv3 : W3.heap[w.heap.size]? = some (.cells #[v] (ρC.t 24) (0, 0)) := by rw [← hW3]; exact (World.putObj_heap_other (by omega)).trans hv
  have hD3 : W3.heap[W0.heap.size]? = some (.deferred (some [])) := by rw [← hW3]; exact (World.putObj_heap_other (by omega)).trans h2.K
  have hrow3 := hrow.kept hg3 (ownsRow_ne_a hrow h2.L (fun cur e => by cases e))
  have hb3 : RowKit.Below w.heap.size (cutW w A s (memS s).length) W3 := hb2.grown hg3 (by have := hb2.size; rw [cutW_size] at this; exact this) (fun k e => by cases e; omega)
  obtain ⟨hc3, hf3⟩ := cell_of_box_a hv3
  clear hW3
  refine ⟨none, W3, hend, ?_⟩
  gi_wp2
  rw [← hs0]
  refine ⟨by simp, .inl ⟨_, _, rfl, run_takeDeferred hD3, ?_⟩⟩
  exact ⟨_, results_tmp rfl _ _ _, v, rfl, hrow3.kept (grownBy_putObj_a _ _ _) (ownsRow_ne_a hrow3 hD3 (fun cur e => by cases e)), hnil, hb3.grown (grownBy_putObj_a _ _ _) (by have := hb3.size; rw [cutW_size] at this; exact this) (fun k e => by cases e; omega)⟩
theorem collect_raw (s : Nat) (hs : s < 32) (A : Addr) (FM : Mem) (ht : Tabs gsT FM) (w : World) (hFM : ∀ b o, FM b = some o → w.heap[b]? = some o) (hFA : FM A.block = none) (hc : w.cell? A = some (.int .u64 s)) (hf : w.frozen? A = false) :
  Calls Tryd.prog 43 #[.func (.func 75) #[] #[.pointer (some A)]] w fun e w' => ∃ v, e = .returned v ∧ w'.ownsRow w.heap.size 3 1 v (itemsZ s).length ((itemsZ s).map encZ) ∧ (v = .slice none 0 0 ↔ itemsZ s = []) ∧ RowKit.Below w.heap.size (cutW w A s (memS s).length) w' := by
 refine (callsIn_wide (n := 4)).1 ?_
 have hap := append_raw 3 (by omega) s hs A FM ht w hFM hFA hc hf
 refine callsIn_of_wp Tryd.func43 rfl trivial ?_ rfl
 simp only [Tryd.ntmps43, List.size_toArray, List.length_cons, List.length_nil, Nat.reduceAdd, Nat.reduceSub, Array.replicate_succ, Array.replicate_zero, List.push_toArray, List.append_toArray, List.nil_append, List.cons_append]
 gi_wp2
 refine ⟨trivial, hap.mono ?_⟩
 rintro e w' ⟨v, rfl, hrow, hnil, hb⟩
 dsimp only
 gi_wp2
 go_ret
 exact ⟨v, rfl, hrow, hnil, hb⟩
theorem cutW_shape {w : World} {A : Addr} {s : Nat} {cs : Array Value} {e : TypeId} {fz : Nat × Nat} (h : w.heap[A.block]? = some (.cells cs e fz)) : ∀ k, ∃ cs', (cutW w A s k).heap[A.block]? = some (.cells cs' e fz) ∧ cs'.size = cs.size
 | 0 => ⟨cs, h, rfl⟩
 | k + 1 => by
   obtain ⟨cs', h1, h2⟩ := cutW_shape (s := s) h k
   refine ⟨if A.spot.isSome then cs' else cs'.setIfInBounds A.off (.int .u64 (cutS s (k + 1))), ?_, ?_⟩
   ·show ((cutW w A s k).heap.modify A.block _)[A.block]? = _
    rw [Array.getElem?_modify, h1]
    simp only [if_true]
    rfl
   ·split
    ·exact h2
    ·rw [Array.size_setIfInBounds, h2]
theorem cutW_same (w : World) (A : Addr) (s : Nat) : ∀ k, (cutW w A s k).os = w.os ∧ (cutW w A s k).tape = w.tape ∧ (cutW w A s k).output = w.output
 | 0 => ⟨rfl, rfl, rfl⟩
 | k + 1 => cutW_same w A s k
theorem c_Collect (R : Res) [Tab LT R] (s : Nat) (hs : s < 32) (g : R.σ) : Does Tryd.prog R 43 [.fn 75 0 (nth []) 1 (nth [.ref 0 0])] [.cells false 1 (fun _ => .int .u64 s)] g
  (.ret (.fz .auto 1 (memS s).length (fun i _ => .int .i64 (((memS s).getD i 0 : Nat) : Int)))) [.cells false 1 (fun _ => .any)] g := by
 refine ⟨fun FM ρ w vs okh hvs => ?_⟩
 have hT : Tabs gsT FM := Tab.h (T := LT) okh.j
 obtain ⟨hsz, hden⟩ := hvs
 have h0 := hden 0 (by simp)
 obtain ⟨xs, ys, hu, hxs, hys, _, hdb⟩ := h0
 obtain ⟨p, hp, hy0⟩ := hdb 0 (by omega)
 have hxs0 : xs = #[] := Array.size_eq_zero_iff.1 hxs
 subst hxs0
 have hysE : ys = #[.pointer (some ⟨p.1, p.2.1, none⟩)] := by
  refine Array.ext (by simp [hys]) (fun i h1 h2 => ?_)
  have : i = 0 := by simp at h2; omega
  subst this
  rw [Array.getD_eq_getD_getElem?, Array.getElem?_eq_getElem h1] at hy0
  simpa using hy0
 have hvsE : vs = #[.func (.func 75) #[] #[.pointer (some ⟨p.1, p.2.1, none⟩)]] := by
  have hsz1 : vs.size = 1 := by simpa using hsz
  refine Array.ext (by simp [hsz1]) (fun i h1 h2 => ?_)
  have : i = 0 := by simp at h2; omega
  subst this
  rw [Array.getD_eq_getD_getElem?, Array.getElem?_eq_getElem h1] at hu
  rw [hysE] at hu
  simpa using hu
 obtain ⟨A, hA⟩ : ∃ A : Addr, A = ⟨p.1, p.2.1, none⟩ := ⟨_, rfl⟩
 have hAb : A.block = p.1 := by rw [hA]
 obtain ⟨k1, k2⟩ := okh.rel.obj 0 p hp
 obtain ⟨cs, e, b1, b2, b3, b4, _, b6⟩ := k2 (by omega)
 obtain ⟨x, c1, c2, c3⟩ := b4 0 (by omega)
 have hx : x = .int .u64 s := c3
 subst hx
 have hcell : w.cell? A = some (.int .u64 s) := by rw [hA]; simp only [World.cell?, b1]; simpa using c1
 have hfroz : w.frozen? A = false := by rw [hA]; simp [World.frozen?, b1]
 have hreal : p.2.1 ≤ p.2.2 := by omega
 have hAlt : A.block < w.heap.size := by rw [hAb]; exact k1 hreal
 have hin : InB ρ A.block := ⟨p, mem_of_get hp, hAb.symm, hreal⟩
 have hFA : FM A.block = none := by rw [hAb]; exact b6 rfl
 rw [hvsE, ← hA]
 refine (collect_raw s hs A FM hT w okh.rel.fm hFA hcell hfroz).mono ?_
 rintro en w' ⟨v, rfl, hrow, hnil, hb⟩
 obtain ⟨o1, o2, o3⟩ := cutW_same w A s (memS s).length
 have hsize : w.heap.size ≤ w'.heap.size := by have := hb.size; rwa [cutW_size] at this
 have hheap : ∀ b, b < w.heap.size → b ≠ A.block → w'.heap[b]? = w.heap[b]? := fun b h1 h2 => (hb.block b h1).trans (cutW_far w A s h2 _)
 obtain ⟨cs', s1, s2⟩ := cutW_shape (s := s) (A := A) (by rw [hAb]; exact b1) (memS s).length
 have hA' : w'.heap[A.block]? = some (.cells cs' e (0, 0)) := (hb.block _ hAlt).trans s1
 have hcell' : w'.cell? A = some (.int .u64 (cutS s (memS s).length)) := (hb.cell hAlt).trans (cutW_cell hcell _)
 -- what is frozen
 obtain ⟨FM', f1, f2, f3, f4⟩ : ∃ FM' : Mem, (∀ b o, FM b = some o → FM' b = some o) ∧ (∀ b o, FM' b = some o → FM b = some o ∨ (w.heap.size ≤ b ∧ w'.heap[b]? = some o)) ∧ (∀ b, b < w.heap.size → FM' b = FM b) ∧
   Den FM' ρ (.fz .auto 1 (memS s).length (fun i _ => .int .i64 (((memS s).getD i 0 : Nat) : Int))) v := by
  rw [itemsZ_len] at hrow
  rcases hrow.2 with ⟨rfl, hn0⟩ | ⟨g', cap, cur, rfl, hg', hh, h5, _, h6, h7⟩
  ·refine ⟨FM, fun _ _ h => h, fun _ _ h => .inl h, fun _ _ => rfl, ⟨fun _ => ⟨hn0, none, 0, rfl, rfl, rfl⟩, fun hemp => ?_⟩⟩
   rw [hn0] at hemp; cases hemp
  ·have hfmg : FM g' = none := by
    cases hx : FM g' with
    | none => rfl
    | some o => have := (Array.getElem?_eq_some_iff.1 (okh.rel.fm g' o hx)).1; omega
   refine ⟨fun b => if b = g' then some (.cells cur 3 (0, 0)) else FM b, fun b o h => ?_, fun b o h => ?_, fun b h => ?_, ⟨fun hemp => ?_, fun _ => ⟨g', 0, cap, rfl, h5, fun h => (by rcases h with h | h <;> cases h), fun i j hi hj => ?_⟩⟩⟩
   ·have : b ≠ g' := fun e => by rw [e, hfmg] at h; cases h
    simp only [this, if_false]; exact h
   ·by_cases hbg : b = g'
    ·subst hbg
     simp only [if_true] at h
     exact .inr ⟨hg', by rw [← h]; exact hh⟩
    ·simp only [hbg, if_false] at h
     exact .inl h
   ·have : b ≠ g' := by omega
    simp only [this, if_false]
   ·exfalso
    have hz : (memS s).length = 0 := Nat.eq_of_beq_eq_true hemp
    have := hnil.2 (List.length_eq_zero_iff.1 (by rw [itemsZ_len]; exact hz))
    cases this
   ·have : j = 0 := by omega
    subst this
    refine ⟨.int .i64 (((memS s).getD i 0 : Nat) : Int), ?_, rfl, rfl⟩
    unfold fmCell
    simp only [if_true]
    have hi' : i < cur.size := by rw [h6]; omega
    have e1 : cur[i]? = ((itemsZ s).map encZ)[i]? := by
     rw [← h7, List.getElem?_take, if_pos (by omega), Array.getElem?_toList]
    show cur[0 + i * 1 + 0]? = _
    rw [show 0 + i * 1 + 0 = i by omega, e1]
    unfold itemsZ
    rw [List.map_map, List.getElem?_map, List.getElem?_eq_getElem hi, List.getD_eq_getElem?_getD, List.getElem?_eq_getElem hi]
    rfl
 have hsound : ∀ b o, FM' b = some o → w'.heap[b]? = some o := fun b o h => by
  rcases f2 b o h with h | h
  ·have h1 := okh.rel.fm b o h
   exact (hheap b (Array.getElem?_eq_some_iff.1 h1).1 (fun e => by rw [e, hFA] at h; cases h)).trans h1
  ·exact h.2
 have hρl : ρ.length = 1 := okh.rel.len
 refine ⟨FM', ρ, ⟨v, rfl, f4⟩, ⟨⟨hsound, okh.rel.len, fun i q hi => ?_, fun i j q r hi hj _ _ _ => ?_⟩, R.st okh.j ⟨f1, fun b h => f3 b (okh.bd b h).1, hsound, fun b h => hheap b (okh.bd b h).1 (fun e => (okh.bd b h).2 (e ▸ hin)), hsize, hb.os.trans o1, hb.tape.trans o2, hb.output.trans o3⟩, fun b h => ⟨Nat.lt_of_lt_of_le (okh.bd b h).1 hsize, (okh.bd b h).2⟩⟩,
  ⟨⟨f1, fun b o h => (f2 b o h).elim .inl (fun h => .inr (.inl h.1)), fun b h => .inl h, fun b h1 h2 h3 => hheap b h1 (fun e => h2 (e ▸ hin)), hsize, hb.os.trans o1, hb.tape.trans o2, hb.output.trans o3⟩, fun b h => .inl h, Sub.refl _⟩⟩
 ·have hi1 : i < ρ.length := (List.getElem?_eq_some_iff.1 hi).1
  have : i = 0 := by omega
  subst this
  rw [hp] at hi; cases hi
  refine ⟨fun h => Nat.lt_of_lt_of_le (k1 h) hsize, fun _ => ⟨cs', e, by rw [← hAb]; exact hA', by omega, by omega, fun j hj => ?_, fun h => (by cases h), fun _ => ?_⟩⟩
  ·have : j = 0 := by omega
   subst this
   refine ⟨.int .u64 (cutS s (memS s).length), ?_, rfl, trivial⟩
   simp only [World.cell?, hA'] at hcell'
   rw [hA] at hcell'
   simpa using hcell'
  ·rw [f3 p.1 (by rw [← hAb]; exact hAlt), ← hAb]; exact hFA
 ·have h1 := (List.getElem?_eq_some_iff.1 hi).1
  have h2 := (List.getElem?_eq_some_iff.1 hj).1
  omega
end Go.Avm.Pack
namespace Go.Avm.Pack
open Go Go.Avm Go.Proofs
open Go.IntKind (i64 u64)
open Go.Avm.AV (int bool any fz fp sl ow ref fn ifc val agg tup)
open Go.Avm.AObj (cells dead)
open Go.Avm.Oc (ret)
set_option maxRecDepth 4000

theorem mem_memS {s n : Nat} : n ∈ memS s ↔ n < 5 ∧ s.testBit n = true := by
 unfold memS
 rw [List.mem_filter, List.mem_range]
theorem clr_mem {s k n : Nat} (hs : s < 32) : n ∈ memS (clrS s k) ↔ n ∈ memS s ∧ n ≠ k := by
 by_cases hk : k < 5
 ·have h := forS (p := fun s => (List.range 5).all fun k => (List.range 5).all fun n => (clrS s k).testBit n == (s.testBit n && n != k)) (by decide) s hs
  have h := (List.all_eq_true.1 h) k (by simpa using hk)
  rw [mem_memS, mem_memS]
  constructor
  ·rintro ⟨h1, h2⟩
   have h := eq_of_beq ((List.all_eq_true.1 h) n (by simpa using h1))
   rw [h2] at h
   simp only [Bool.true_eq, Bool.and_eq_true, bne_iff_ne] at h
   exact ⟨⟨h1, h.1⟩, h.2⟩
  ·rintro ⟨⟨h1, h2⟩, h3⟩
   have h := eq_of_beq ((List.all_eq_true.1 h) n (by simpa using h1))
   refine ⟨h1, ?_⟩
   rw [h, h2]
   simpa using h3
 ·have ht : s.testBit k = false := Nat.testBit_lt_two_pow (Nat.lt_of_lt_of_le hs (by
   have : 2 ^ 5 ≤ 2 ^ k := Nat.pow_le_pow_right (by omega) (by omega)
   exact this))
  unfold clrS
  rw [ht]
  simp only [Bool.false_eq_true, if_false]
  constructor
  ·intro h
   exact ⟨h, fun e => by have := (mem_memS.1 h).1; omega⟩
  ·exact fun h => h.1
theorem clr_le (s k : Nat) : clrS s k ≤ s := by
 unfold clrS; split
 ·exact Nat.sub_le _ _
 ·exact Nat.le_refl _
theorem drop_le (x : Ix) (i : Nat) (L : Nat → Nat) (k j : Nat) : dropK x i L k j ≤ L j := by
 unfold dropK; split
 ·exact Nat.le_refl _
 ·unfold updN; split
  ·rename_i h; subst h; exact clr_le _ _
  ·exact Nat.le_refl _
theorem fold_le {x : Ix} {i : Nat} : ∀ (l : List Nat) (L : Nat → Nat) (j : Nat), l.foldl (dropK x i) L j ≤ L j
 | [], _, _ => Nat.le_refl _
 | k :: r, L, j => Nat.le_trans (fold_le r _ j) (drop_le x i L k j)
theorem round_le (x : Ix) (B : Nat → Nat) : ∀ (i j : Nat), roundN x B i j ≤ B j
 | 0, _ => Nat.le_refl _
 | i + 1, j => Nat.le_trans (fold_le _ _ j) (round_le x B i j)
theorem sets_drop {x : Ix} {L : Nat → Nat} (h : setsL x L) (i k : Nat) : setsL x (dropK x i L k) := by
 intro j
 obtain ⟨h1, h2, h3⟩ := h j
 have hle := drop_le x i L k j
 refine ⟨by omega, fun hj => by have := h2 hj; omega, fun n hn => h3 n ?_⟩
 unfold dropK at hn
 split at hn
 ·exact hn
 ·unfold updN at hn
  split at hn
  ·rename_i e; subst e; exact ((clr_mem h1).1 hn).1
  ·exact hn
theorem sets_fold {x : Ix} {i : Nat} : ∀ (l : List Nat) (L : Nat → Nat), setsL x L → setsL x (l.foldl (dropK x i) L)
 | [], _, h => h
 | k :: r, L, h => sets_fold r _ (sets_drop h i k)
theorem sets_round {x : Ix} {B : Nat → Nat} (h : setsL x B) : ∀ i, setsL x (roundN x B i)
 | 0 => h
 | i + 1 => sets_fold _ _ (sets_round h i)
theorem sets_full {x : Ix} (hx : formedB x = true) : setsL x (fullN x x.l.length) := by
 intro j
 unfold fullN
 by_cases hj : j < x.l.length
 ·rw [if_pos hj]
  have h5 := formed_five hx hj
  generalize (x.l.getD j default).l.length = n at h5
  have h : (List.range 6).all (fun n => decide (2 ^ n - 1 < 32) && (List.range 5).all fun m => !(2 ^ n - 1).testBit m || decide (m < n)) = true := by decide
  have h := (List.all_eq_true.1 h) n (by simp; omega)
  simp only [Bool.and_eq_true, decide_eq_true_eq] at h
  refine ⟨h.1, fun h => by omega, fun m hm => ?_⟩
  obtain ⟨m1, m2⟩ := mem_memS.1 hm
  have h := (List.all_eq_true.1 h.2) m (by simpa using m1)
  rw [m2] at h
  simpa using h
 ·rw [if_neg hj]
  exact ⟨by omega, fun _ => rfl, fun n hn => by simp [memS] at hn⟩
theorem sets_trim {x : Ix} (hx : formedB x = true) : ∀ n, setsL x (trimN x n)
 | 0 => sets_full hx
 | n + 1 => sets_round (sets_trim hx n) _
def sum8 (L : Nat → Nat) : Nat := L 0 + L 1 + L 2 + L 3 + L 4 + L 5 + L 6 + L 7
theorem trim_fix {x : Ix} (hx : formedB x = true) : ∃ Y, trimN x (Y + 1) = trimN x Y ∧ ∀ y, y < Y → trimN x (y + 1) ≠ trimN x y := by
 have h8 := (formed_le hx).2
 have hlt : ∀ y, trimN x (y + 1) ≠ trimN x y → sum8 (trimN x (y + 1)) < sum8 (trimN x y) := fun y hne => by
  have hle := round_le x (trimN x y) x.l.length
  have h0 := fun j (hj : 8 ≤ j) => ((sets_trim hx y) j).2.1 (by omega)
  refine Nat.lt_of_not_le (fun hge => hne (funext fun j => ?_))
  have hle' : ∀ j, trimN x (y + 1) j ≤ trimN x y j := hle
  unfold sum8 at hge
  have a0 := hle' 0; have a1 := hle' 1; have a2 := hle' 2; have a3 := hle' 3; have a4 := hle' 4; have a5 := hle' 5; have a6 := hle' 6; have a7 := hle' 7
  rcases Nat.lt_or_ge j 8 with hj | hj
  ·match j, hj with
   | 0, _ => omega
   | 1, _ => omega
   | 2, _ => omega
   | 3, _ => omega
   | 4, _ => omega
   | 5, _ => omega
   | 6, _ => omega
   | 7, _ => omega
  ·have := hle' j
   have := h0 j hj
   omega
 have hex : ∃ Y, trimN x (Y + 1) = trimN x Y := by
  refine Classical.byContradiction fun hno => ?_
  have hall : ∀ y, sum8 (trimN x y) + y ≤ sum8 (trimN x 0) := fun y => by
   induction y with
   | zero => exact Nat.le_refl _
   | succ y ih =>
     have := hlt y (fun e => hno ⟨y, e⟩)
     omega
  have := hall (sum8 (trimN x 0) + 1)
  omega
 obtain ⟨Y, hY⟩ := hex
 have key : ∀ n, ∀ Y, Y ≤ n → trimN x (Y + 1) = trimN x Y → ∃ Y, trimN x (Y + 1) = trimN x Y ∧ ∀ y, y < Y → trimN x (y + 1) ≠ trimN x y := by
  intro n
  induction n with
  | zero => exact fun Y h0 h => ⟨Y, h, fun y hy => by omega⟩
  | succ n ih =>
    intro Y hYn h
    by_cases hs : ∃ y, y < Y ∧ trimN x (y + 1) = trimN x y
    ·obtain ⟨y, h1, h2⟩ := hs
     exact ih y (by omega) h2
    ·exact ⟨Y, h, fun y hy e => hs ⟨y, hy, e⟩⟩
 exact key Y Y (Nat.le_refl _) hY
noncomputable def trimY (x : Ix) : Nat := by
 classical
 exact if h : formedB x = true then Classical.choose (trim_fix h) else 0
noncomputable def trimL (x : Ix) : Nat → Nat := trimN x (trimY x)
theorem trimY_fix {x : Ix} (hx : formedB x = true) : trimN x (trimY x + 1) = trimN x (trimY x) ∧ ∀ y, y < trimY x → trimN x (y + 1) ≠ trimN x y := by
 have e : trimY x = Classical.choose (trim_fix hx) := by unfold trimY; rw [dif_pos hx]
 rw [e]
 exact Classical.choose_spec (trim_fix hx)
end Go.Avm.Pack
namespace Go.Avm.Pack
open Go Go.Avm Go.Proofs
open Go.IntKind (i64 u64)
open Go.Avm.AV (int bool any fz fp sl ow ref fn ifc val agg tup)
open Go.Avm.AObj (cells dead)
open Go.Avm.Oc (ret)
set_option maxRecDepth 4000

def encLL (n : Nat) (l : Nat → List Nat) : AV := .fz .auto 1 n (fun i _ => .fz .auto 1 (l i).length (fun k _ => .int .i64 (((l i).getD k 0 : Nat) : Int)))
theorem below_packs {x : Ix} (j : Nat) {m : Nat} : Below m (nth [encPacks x] j) := match j with
 | 0 => trivial
 | _ + 1 => trivial
theorem below_one {i : Int} (j : Nat) {m : Nat} : Below m (nth [.int .i64 i] j) := match j with
 | 0 => trivial
 | _ + 1 => trivial
theorem contQ_blkN {P : Program} {R : Res} {nt k0 id : Nat} {r : Rd} {b : Code} {Q : AEx → St R.σ → Prop} {s : St R.σ} (h : Q .normal s) : contQ P R nt k0 r b Q [.blk id] .normal s := h
theorem contQ_blkE {P : Program} {R : Res} {nt k0 id j : Nat} {r : Rd} {b : Code} {Q : AEx → St R.σ → Prop} {s : St R.σ} (hj : Nat.beq j id = false) (h : Q (.exit j) s) : contQ P R nt k0 r b Q [.blk id] (.exit j) s := by
 show (bif Nat.beq j id then contQ P R nt k0 r b Q [] .normal s else contQ P R nt k0 r b Q [] (.exit j) s)
 rw [hj]
 exact h
def llC (l : Nat → List Nat) (i : Nat) : AV := .fz .auto 1 (l i).length (fun k _ => .int .i64 (((l i).getD k 0 : Nat) : Int))
theorem llC_append {l : Nat → List Nat} {i c : Nat} {z f : Nat → AV} (hc : c < (i + 1) * 1) (hf : f 0 = llC l i := by rfl) : llC l c = plainJ 1 i (fun a b => llC l (a * 1 + b)) (fun a b => over z 0 1 f (0 + a * 1 + b)) c := by
 unfold plainJ
 by_cases h : c < i * 1
 ·rw [if_pos h]
  show _ = llC l (c / 1 * 1 + c % 1)
  rw [show c / 1 * 1 + c % 1 = c by omega]
 ·rw [if_neg h]
  show _ = over z 0 1 f (0 + (c - i * 1) / 1 * 1 + (c - i * 1) % 1)
  have : c = i := by omega
  subst this
  rw [over_eq, show 0 + (c - c * 1) / 1 * 1 + (c - c * 1) % 1 = 0 by omega, if_pos (by omega)]
  exact hf.symm
theorem need_pack {x : Ix} (hx : formedB x = true) {i n : Nat} (hi : i < x.l.length) (hn : n < (x.l.getD i default).l.length) (r : Rng) (hr : r ∈ ((x.l.getD i default).l.getD n default).needs.l) : 0 ≤ r.pack ∧ r.pack < x.l.length := by
 have e := formed_rel hx hi hn
 unfold relB at e
 simp only [Bool.and_eq_true] at e
 have := List.all_eq_true.1 e.1.2 r hr
 unfold otherB at this
 simp only [Bool.and_eq_true] at this
 exact ranged_pack this.1
theorem trim_raw (R : Res) [Tab LT R] (x : Ix) (g : R.σ) (hs : small x) (hx : formedB x = true) : Does Tryd.prog R 9 [encIx x] [] g (.ret (.tup 2 (nth [encLL x.l.length (fun i => memS (trimL x i)), .int .i64 0]))) [] g := by
 classical
 obtain ⟨gl, hgl⟩ : ∃ gl : KL Rng, gl = nilR := ⟨_, rfl⟩
 have h8 := (formed_le hx).2
 refine spec_of_wp (nt := 84) (rs := [.tmp 2, .tmp 3]) (k0 := 0) (by kernel_rfl) (by kernel_rfl) (by kernel_rfl) rfl ?_
 refine vcQ [] (lkL [(0, [1]), (1, [1, 4]), (2, [1, 4, 17]), (3, [2, 3]), (4, [1, 4, 5]), (5, [1, 4, 5, 19, 20, 21])]) (lkL [(1, [(1, ROrc.kop (encMkt x gl)), (3, ROrc.val (Orc.obj (nth [encPacks x, encR gl])))]), (2, [(1, ROrc.pcall (AV.bool true))])]) (fun Q => (fun (u1 : AObj) => (fun (u2 : AV) => (fun (u3 : List AV) => (fun (u4 : AV) => 1 ≤ 1 ∧ OpOk Tryd.prog R (Oper.mk (some 14) (Op.build 74 #[(0, Operand.tmp 13), (1, Operand.const (Value.slice none 0 0))]) 74 "pack.go:193" #[Edge.mk 0 Ground.data] none) (evO [Row.mk (some 13) none (encIx x) false (some []) [0]] [(1, ref 0 0)] []) [u1] g (encMkt x gl) [u1] g ∧ 2 ≤ 2 ∧ (∀ (c : Nat), c < 2 → nth u3 c = over (nth [u2, u2]) 0 2 (List.brecOn (motive := fun (x : List AV) => Nat → AV) u3 nth._f) c) ∧ 2 ≤ 2 ∧ (∀ (hp : List AObj) (g : R.σ), true = true ∧ Does Tryd.prog R 37 [encMkt x gl] hp g (ret (AV.bool true)) hp g) ∧ (false = true → Q AEx.ret (St.mk [(2, u2), (3, int i64 2)] [u1, cells false 2 (nth u3)] g)) ∧ (false = false → 1 ≤ 1 ∧ Wp Tryd.prog R 84 0 Rd.top (bodyOf Tryd.prog 9) [1, 1, 1, 1, 0, 1, 0] (contQ Tryd.prog R 84 0 Rd.top (bodyOf Tryd.prog 9) Q [Kont.blk 0, Kont.seq [1, 1, 1, 1, 1]]) (St.mk [(1, ref 0 0), (4, ref 1 0), (5, ref 2 0), (19, encPacks x), (20, int i64 (x.l.length : Int)), (21, int i64 0)] [u1, cells false 2 (nth u3), cells false 8 (nth [u4, u4, u4, u4, u4, u4, u4, u4])] g))) (int u64 0)) ([encPacks x, encR gl])) (fz Fz.nil 0 0 fun _ _ => any)) (cells false 1 (nth [encPacks x]))) (fun _ => by kernel_rfl) ⟨(by omega), ⟨?_, ⟨(by omega), ⟨(fun c hc => match c, hc with | 0, _ => (by kernel_rfl) | 1, _ => (by kernel_rfl) ), ⟨(by omega), ⟨(fun _ _ => ⟨rfl, (does_bool hx (Go.Avm.Pack.c_formed _ _ _ _ _ (by omega)))⟩), ⟨fun h => (nomatch h), fun _ => ⟨(by omega), ?_⟩⟩⟩⟩⟩⟩⟩⟩
 ·refine opOk_le (out := ⟨.agg 2 (nth [encPacks x, .fz .nil 0 0 (fun _ _ => .any)]), [.cells false 1 (nth [encPacks x])], [], .pure⟩) (by kernel_rfl) trivial (Le.agg fun j hj => ?_)
  subst hgl
  match j, hj with
  | 0, _ => exact Le.refl _
  | 1, _ => exact Le.nil
 ·refine (wp_loop (by kernel_rfl) (fun (i : Nat) => ⟨[(1, ref 0 0), (4, ref 1 0), (5, ref 2 0), (19, encPacks x), (20, int i64 (x.l.length : Int)), (21, .int .i64 i)], [.cells false 1 (nth [encPacks x]), .cells false 2 (nth [encPacks x, encR gl]), .cells false 8 (fun j => .int .u64 (fullN x i j))], g⟩) (fun (i : Nat) => (i ≤ x.l.length)) (fun (i : Nat) => (x.l.length - i)) 0 (to_le ⟨(Le.refl _), ⟨(Le.refl _), ⟨(Le.refl _), ⟨(Le.refl _), ⟨(Le.refl _), ⟨(Le.of_eq (by kernel_rfl)), trivial⟩⟩⟩⟩⟩⟩ ⟨LeO.rflc, ⟨LeO.rflc, ⟨⟨rfl, Nat.le_refl _, fun j hj => match j, hj with | 0, _ => (Le.of_eq (by kernel_rfl)) | 1, _ => (Le.of_eq (by kernel_rfl)) | 2, _ => (Le.of_eq (by kernel_rfl)) | 3, _ => (Le.of_eq (by kernel_rfl)) | 4, _ => (Le.of_eq (by kernel_rfl)) | 5, _ => (Le.of_eq (by kernel_rfl)) | 6, _ => (Le.of_eq (by kernel_rfl)) | 7, _ => (Le.of_eq (by kernel_rfl)) ⟩, trivial⟩⟩⟩ rfl) ?_ (fun i hi => ?_))
  ·omega
  ·refine vcQ [] (lkL [(6, [1, 4, 5, 19, 20, 21, 22]), (7, [1, 4, 5, 6, 7, 19, 20, 21]), (8, [1, 4, 5, 19, 20, 21]), (9, [1, 4, 5, 19, 20, 21])]) (fun _ => []) (fun Q => (fun (u1 : Int) => (fun (u2 : Int) => (decide (u2 < u1) = true → (0 ≤ u2 ∧ u2 < u1) ∧ 1 ≤ 1 ∧ 0 ≤ (↑((x.l.getD i default).l.length) : Int) ∧ (0 ≤ u2 ∧ u2 < (↑8 : Int)) ∧ i + 1 ≤ 8 ∧ (-9223372036854775808 ≤ u2 + 1 ∧ u2 + 1 ≤ 9223372036854775807) ∧ Q AEx.normal (St.mk [(1, ref 0 0), (4, ref 1 0), (5, ref 2 0), (19, encPacks x), (20, int i64 u1), (21, int i64 (u2 + 1))] [cells false 1 (nth [encPacks x]), cells false 2 (nth [encPacks x, encR gl]), cells false 8 (over (fun (j : Nat) => int u64 (↑(fullN x i j) : Int)) i 1 fun (x_2 : Nat) => int u64 (IntKind.wrap u64 (IntKind.wrap u64 (1 * 2 ^ min ((x.l.getD i default).l.length) 64) - 1)))] g)) ∧ (decide (u2 < u1) = false → Q (AEx.exit 0) (St.mk [(1, ref 0 0), (4, ref 1 0), (5, ref 2 0), (19, encPacks x), (20, int i64 u1), (21, int i64 u2), (22, AV.bool (decide (u2 < u1)))] [cells false 1 (nth [encPacks x]), cells false 2 (nth [encPacks x, encR gl]), cells false 8 fun (j : Nat) => int u64 (↑(fullN x i j) : Int)] g))) ((i : Int))) ((x.l.length : Int))) (fun _ => by kernel_rfl) ⟨fun c1 => have c1 : (i : Int) < (x.l.length : Int) := (of_decide_eq_true c1); ⟨(by omega), ⟨(by omega), ⟨(by omega), ⟨(by omega), ⟨(by omega), ⟨(by omega), ?_⟩⟩⟩⟩⟩⟩, fun c1 => have c1 : ¬(i : Int) < (x.l.length : Int) := (of_decide_eq_false c1); ?_⟩
   ·refine (next_round (i + 1) (to_le ⟨(Le.refl _), ⟨(Le.refl _), ⟨(Le.refl _), ⟨(Le.refl _), ⟨(Le.refl _), ⟨(Le.of_eq (by kernel_rfl)), trivial⟩⟩⟩⟩⟩⟩ ⟨LeO.rflc, ⟨LeO.rflc, ⟨(LeO.cells (fun j hj => ?_)), trivial⟩⟩⟩ rfl) ?_ ?_)
    ·rw [over_eq]
     by_cases h : j = i
     ·subst h
      rw [if_pos (by omega)]
      refine (fullU _ (formed_five hx (by omega))).trans ?_
      show AV.int .u64 _ = AV.int .u64 _
      unfold fullN
      rw [if_pos (by omega)]
     ·rw [if_neg (by omega)]
      show AV.int .u64 _ = AV.int .u64 _
      unfold fullN
      by_cases h2 : j < i
      ·rw [if_pos h2, if_pos (by omega)]
      ·rw [if_neg h2, if_neg (by omega)]
    ·omega
    ·omega
   ·have : i = x.l.length := by omega
    subst this
    refine ⟨_, To.refl _, vcQ [] (lkL []) (fun _ => []) (fun Q => Wp Tryd.prog R 84 0 Rd.top (bodyOf Tryd.prog 9) [1, 1, 1, 1, 1, 0, 0] (contQ Tryd.prog R 84 0 Rd.top (bodyOf Tryd.prog 9) Q [Kont.blk 2, Kont.seq [1, 1, 1, 1, 1, 1]]) (St.mk [(1, ref 0 0), (4, ref 1 0), (5, ref 2 0), (19, encPacks x), (20, int i64 (x.l.length : Int)), (21, int i64 (x.l.length : Int)), (22, AV.bool (decide ((x.l.length : Int) < (x.l.length : Int))))] [cells false 1 (nth [encPacks x]), cells false 2 (nth [encPacks x, encR gl]), cells false 8 fun (j : Nat) => int u64 (↑(fullN x (x.l.length) j) : Int)] g)) (fun _ => by kernel_rfl) (?_)⟩
    refine (wp_loop (by kernel_rfl) (fun (y : Nat) => ⟨[(1, ref 0 0), (4, ref 1 0), (5, ref 2 0), (19, .any), (20, .any), (21, .any), (22, .any)], [.cells false 1 (nth [encPacks x]), .cells false 2 (nth [encPacks x, encR gl]), .cells false 8 (fun j => .int .u64 (trimN x y j))], g⟩) (fun (y : Nat) => (y ≤ trimY x)) (fun (y : Nat) => (trimY x - y)) 0 (to_le ⟨(Le.refl _), ⟨(Le.refl _), ⟨(Le.refl _), ⟨(Le.any _), ⟨(Le.any _), ⟨(Le.any _), ⟨(Le.any _), trivial⟩⟩⟩⟩⟩⟩⟩ ⟨LeO.rflc, ⟨LeO.rflc, ⟨LeO.rflc, trivial⟩⟩⟩ rfl) ?_ (fun y hi => ?_))
    ·omega
    ·have hy := hi
     obtain ⟨B, hB⟩ : ∃ B, trimN x y = B := ⟨_, rfl⟩
     have hBs : setsL x B := by rw [← hB]; exact sets_trim hx y
     simp only [hB]
     refine vcQ [] (lkL [(10, [1, 4, 5, 8]), (11, [1, 4, 5, 8, 36, 37])]) (lkL [(10, [(2, ROrc.val (Orc.obj fun (j : Nat) => int u64 (↑(B j) : Int)))])]) (fun Q => (fun (u1 : AObj) => (fun (u2 : AV) => 8 ≤ 8 ∧ 8 ≤ 8 ∧ (∀ (c : Nat), c < 8 → int u64 (↑(B c) : Int) = over (nth [u2, u2, u2, u2, u2, u2, u2, u2]) 0 8 (fun (j : Nat) => int u64 (↑(B j) : Int)) c) ∧ 1 ≤ 1 ∧ Wp Tryd.prog R 84 0 Rd.top (bodyOf Tryd.prog 9) [1, 1, 1, 1, 1, 0, 0, 0, 0, 1, 0, 1, 0] (contQ Tryd.prog R 84 0 Rd.top (bodyOf Tryd.prog 9) Q [Kont.blk 4, Kont.seq [1, 1, 1, 1, 1, 0, 0, 0, 0, 1, 1], Kont.blk 3]) (St.mk [(1, ref 0 0), (4, ref 1 0), (5, ref 2 0), (8, ref 3 0), (36, int i64 (x.l.length : Int)), (37, int i64 0)] [cells false 1 (nth [encPacks x]), cells false 2 (nth [encPacks x, encR gl]), u1, u1] g)) (int u64 0)) (cells false 8 fun (j : Nat) => int u64 (↑(B j) : Int))) (fun _ => by kernel_rfl) ⟨(by omega), ⟨(by omega), ⟨(fun c hc => match c, hc with | 0, _ => (by kernel_rfl) | 1, _ => (by kernel_rfl) | 2, _ => (by kernel_rfl) | 3, _ => (by kernel_rfl) | 4, _ => (by kernel_rfl) | 5, _ => (by kernel_rfl) | 6, _ => (by kernel_rfl) | 7, _ => (by kernel_rfl) ), ⟨(by omega), ?_⟩⟩⟩⟩
     refine (wp_loop (by kernel_rfl) (fun (i : Nat) => ⟨[(1, ref 0 0), (4, ref 1 0), (5, ref 2 0), (8, ref 3 0), (36, int i64 (x.l.length : Int)), (37, .int .i64 i)], [.cells false 1 (nth [encPacks x]), .cells false 2 (nth [encPacks x, encR gl]), .cells false 8 (fun j => .int .u64 (roundN x B i j)), .cells false 8 (fun j => .int .u64 (B j))], g⟩) (fun (i : Nat) => (i ≤ x.l.length)) (fun (i : Nat) => (x.l.length - i)) 0 (to_le ⟨(Le.refl _), ⟨(Le.refl _), ⟨(Le.refl _), ⟨(Le.refl _), ⟨(Le.refl _), ⟨(Le.of_eq (by kernel_rfl)), trivial⟩⟩⟩⟩⟩⟩ ⟨LeO.rflc, ⟨LeO.rflc, ⟨LeO.rflc, ⟨LeO.rflc, trivial⟩⟩⟩⟩ rfl) ?_ (fun i hi => ?_))
     ·omega
     ·have hi' := hi
      refine vcQ [] (lkL [(12, [1, 4, 5, 8, 36, 37, 38]), (13, [1, 4, 5, 8, 9, 36, 37]), (14, [1, 4, 5, 8, 9, 36, 37, 43])]) (lkL [(13, [(2, ROrc.val (Orc.obj (nth [int i64 (i : Int)])))]), (14, [(3, ROrc.call (fn 75 0 (nth []) 1 (nth [ref (List.length [cells false 1 (nth [encPacks x]), cells false 2 (nth [encPacks x, encR gl]), cells false 8 fun (j : Nat) => int u64 (↑(roundN x B i j) : Int), cells false 8 fun (j : Nat) => int u64 (↑(B j) : Int), cells false 1 (nth [int i64 (i : Int)])]) 0])) ([cells false 1 (nth [encPacks x]), cells false 2 (nth [encPacks x, encR gl]), cells false 8 fun (j : Nat) => int u64 (↑(roundN x B i j) : Int), cells false 8 fun (j : Nat) => int u64 (↑(B j) : Int), cells false 1 (nth [int i64 (i : Int)])] ++ [cells false 1 fun (x : Nat) => int u64 (↑(B i) : Int)]) g)])]) (fun Q => (fun (u1 : List AObj) => (fun (u2 : Int) => (fun (u3 : Int) => (fun (u4 : AObj) => (fun (u5 : AObj) => (decide (u3 < u2) = true → 1 ≤ 1 ∧ (∀ (c : Nat), c < 1 → nth [int i64 u3] c = over (fun (a : Nat) => int i64 0) 0 1 (fun (x : Nat) => int i64 u3) c) ∧ 1 ≤ 1 ∧ (0 ≤ u3 ∧ u3 < (↑8 : Int)) ∧ i + 1 ≤ 8 ∧ (true = true ∧ Does Tryd.prog R 38 [int u64 (↑(B i) : Int)] [cells false 1 (nth [encPacks x]), cells false 2 (nth [encPacks x, encR gl]), u4, u5, cells false 1 (nth [int i64 u3])] g (ret (fn 75 0 (nth []) 1 (nth [ref 5 0]))) u1 g) ∧ Wp Tryd.prog R 84 0 Rd.top (bodyOf Tryd.prog 9) [1, 1, 1, 1, 1, 0, 0, 0, 0, 1, 0, 1, 0, 0, 1, 1, 0, 0, 1, 1, 0] (contQ Tryd.prog R 84 0 Rd.top (bodyOf Tryd.prog 9) Q [Kont.blk 6, Kont.blk 5, Kont.seq [1, 1, 1, 1, 1, 0, 0, 0, 0, 1, 0, 1, 0, 0, 1, 1, 1]]) (St.mk [(1, ref 0 0), (4, ref 1 0), (5, ref 2 0), (8, ref 3 0), (9, ref 4 0), (36, int i64 u2), (37, int i64 u3), (43, fn 75 0 (nth []) 1 (nth [ref 5 0]))] u1 g)) ∧ (decide (u3 < u2) = false → Q (AEx.exit 4) (St.mk [(1, ref 0 0), (4, ref 1 0), (5, ref 2 0), (8, ref 3 0), (36, int i64 u2), (37, int i64 u3), (38, AV.bool (decide (u3 < u2)))] [cells false 1 (nth [encPacks x]), cells false 2 (nth [encPacks x, encR gl]), u4, u5] g))) (cells false 8 fun (j : Nat) => int u64 (↑(B j) : Int))) (cells false 8 fun (j : Nat) => int u64 (↑(roundN x B i j) : Int))) ((i : Int))) ((x.l.length : Int))) ([cells false 1 (nth [encPacks x]), cells false 2 (nth [encPacks x, encR gl]), cells false 8 fun (j : Nat) => int u64 (↑(roundN x B i j) : Int), cells false 8 fun (j : Nat) => int u64 (↑(B j) : Int), cells false 1 (nth [int i64 (i : Int)]), cells false 1 fun (x : Nat) => int u64 (↑(B i) : Int)])) (fun _ => by kernel_rfl) ⟨fun c1 => have c1 : (i : Int) < (x.l.length : Int) := (of_decide_eq_true c1); ⟨(by omega), ⟨(fun c hc => match c, hc with | 0, _ => (by kernel_rfl) ), ⟨(by omega), ⟨(by omega), ⟨(by omega), ⟨⟨rfl, (Go.Avm.Pack.c_members _ _ _ _)⟩, ?_⟩⟩⟩⟩⟩⟩, fun c1 => have c1 : ¬(i : Int) < (x.l.length : Int) := (of_decide_eq_false c1); ?_⟩
      ·obtain ⟨l, hl⟩ : ∃ l, memS (B i) = l := ⟨_, rfl⟩
       have hseq := seq_members (B i) (hBs i).1
       rw [hl] at hseq
       have hin := (hBs i).2.2
       rw [hl] at hin
       obtain ⟨M, hM⟩ : ∃ M : Nat → Nat → Nat, M = fun k => (l.take k).foldl (dropK x i) (roundN x B i) := ⟨_, rfl⟩
       have hM0 : roundN x B i = M 0 := by rw [hM]; rfl
       have hMs : ∀ k, setsL x (M k) := fun k => by rw [hM]; exact sets_fold _ _ (sets_round hBs i)
       have hMn : ∀ k, k < l.length → M (k + 1) = dropK x i (M k) (l.getD k 0) := fun k hk => by
        rw [hM]
        show (l.take (k + 1)).foldl (dropK x i) (roundN x B i) = dropK x i ((l.take k).foldl (dropK x i) (roundN x B i)) (l.getD k 0)
        rw [List.take_add_one, List.foldl_append, List.getD_eq_getElem?_getD, List.getElem?_eq_getElem hk]
        rfl
       have hMe : M l.length = roundN x B (i + 1) := by
        rw [hM]
        show (l.take l.length).foldl (dropK x i) (roundN x B i) = (memS (B i)).foldl (dropK x i) (roundN x B i)
        rw [List.take_length, hl]
       rw [hM0]
       refine wp_range1 43 [44] 5 (by kernel_rfl) rfl rfl rfl hseq (fun _ => rfl) (by kernel_rfl) (fun _ => ⟨trivial, trivial⟩)
        (fun _ => none) (fun _ => rfl)
        (fun k => [.cells false 1 (nth [encPacks x]), .cells false 2 (nth [encPacks x, encR gl]), .cells false 8 (fun j => .int .u64 (M k j)), .cells false 8 (fun j => .int .u64 (B j)), .cells false 1 (nth [.int .i64 i])])
        (fun _ => g) (to_hp rfl rfl) (fun _ => rfl) (by exact ⟨by omega, by omega, by omega, by omega, by omega, by omega, trivial⟩) (by exact ⟨fun j _ => below_packs j, fun j _ => below_mkt j, fun _ _ => trivial, fun _ _ => trivial, fun j _ => below_one j, trivial⟩) (by exact ⟨fun _ _ => trivial, trivial⟩) [1, 4, 5, 9] (by exact ⟨show 0 < 5 by omega, show 1 < 5 by omega, show 2 < 5 by omega, show 4 < 5 by omega, trivial⟩) (fun k l' hk hjk => ?_) (fun _ => ?_) (fun k hk hj hr => by cases hr) (fun k id hk hj hr => by cases hr)
       ·refine vcQ [] (lkL [(15, [1, 4, 5, 8, 9, 10, 36, 37])]) (lkL [(15, [(1, ROrc.val (Orc.obj (nth [int i64 (↑(l.getD k 0) : Int)])))])]) (fun Q => (fun (u1 : AV) => 1 ≤ 1 ∧ (∀ (c : Nat), c < 1 → nth [u1] c = over (fun (a : Nat) => int i64 0) 0 1 (fun (x : Nat) => u1) c) ∧ Q AEx.normal (St.mk [(1, ref 0 0), (4, ref 1 0), (5, ref 2 0), (8, any), (9, ref 4 0), (10, ref 5 0), (36, any), (37, any)] [cells false 1 (nth [encPacks x]), cells false 2 (nth [encPacks x, encR gl]), cells false 8 fun (j : Nat) => int u64 (↑(M k j) : Int), cells false 8 fun (j : Nat) => int u64 (↑(B j) : Int), cells false 1 (nth [int i64 (i : Int)]), cells false 1 (nth [u1])] g)) (int i64 (↑(l.getD k 0) : Int))) (fun _ => by kernel_rfl) ⟨(by omega), ⟨(fun c hc => match c, hc with | 0, _ => (by kernel_rfl) ), ?_⟩⟩
        show Wp _ _ _ 6 _ _ _ _ _
        obtain ⟨n, hn⟩ : ∃ n, l.getD k 0 = n := ⟨_, rfl⟩
        have hnlt : n < (x.l.getD i default).l.length := by rw [← hn]; exact hin _ (getD_mem _ _ hk)
        have hn5 : n < 5 := by have := formed_five hx (show i < x.l.length by omega); omega
        have hMk := hMs k
        have hMk' := hMn k hk
        rw [hn] at hMk'
        simp only [hn]
        have e := rel_len hx (i := i) (k := n) (by omega) (by rw [Int.toNat_natCast]; omega)
        simp only [Int.toNat_natCast] at e
        refine vcQ [] (lkL [(16, [1, 4, 5, 8, 9, 10, 36, 37, 56]), (17, [1, 4, 5, 8, 36, 37])]) (lkL [(16, [(10, ROrc.kcall (AV.bool (List.all ((x.l.getD i default).l.getD n default).needs.l (needB x (M k) (i : Int) (n : Int)))))])]) (fun Q => (fun (u1 : List AObj) => (fun (u2 : Bool) => (fun (u3 : Int) => (fun (u4 : Bool) => u4 = true ∧ 1 ≤ 1 ∧ 1 ≤ 1 ∧ (0 ≤ u3 ∧ u3 < (x.l.length : Int)) ∧ 1 ≤ 1 ∧ 1 ≤ 1 ∧ (0 ≤ (n : Int) ∧ (n : Int) < (↑((x.l.getD i default).l.length) : Int)) ∧ 1 ≤ 2 ∧ (true = true ∧ Does Tryd.prog R 39 [encR ((x.l.getD i default).l.getD n default).needs, fn 40 0 (nth []) 4 (nth [ref 2 0, ref 1 0, ref 4 0, ref 5 0])] u1 g (ret (AV.bool u2)) u1 g) ∧ ((!u2) = true → u4 = true ∧ 1 ≤ 1 ∧ (0 ≤ u3 ∧ u3 < (↑8 : Int)) ∧ i + 1 ≤ 8 ∧ 1 ≤ 1 ∧ 0 ≤ (n : Int) ∧ (0 ≤ u3 ∧ u3 < (↑8 : Int)) ∧ i + 1 ≤ 8 ∧ Q AEx.normal (St.mk [(1, ref 0 0), (4, ref 1 0), (5, ref 2 0), (8, any), (36, any), (37, any)] [cells false 1 (nth [encPacks x]), cells false 2 (nth [encPacks x, encR gl]), cells false 8 (over (fun (j : Nat) => int u64 (↑(M k j) : Int)) i 1 fun (x : Nat) => int u64 (IntKind.wrap u64 (↑(BitVec.toNat (BitVec.ofInt 64 (↑(M k i) : Int) &&& ~~~BitVec.ofInt 64 (IntKind.wrap u64 (1 * 2 ^ min n 64)))) : Int))), cells false 8 fun (j : Nat) => int u64 (↑(B j) : Int), cells false 1 (nth [int i64 u3]), cells false 1 (nth [int i64 (n : Int)])] g)) ∧ ((!u2) = false → Q AEx.normal (St.mk [(1, ref 0 0), (4, ref 1 0), (5, ref 2 0), (8, any), (9, ref 4 0), (10, ref 5 0), (36, any), (37, any), (56, AV.bool !u2)] u1 g))) (Tables.follows Tryd.prog.toTables Departure.mixedOrders)) ((i : Int))) (List.all ((x.l.getD i default).l.getD n default).needs.l (needB x (M k) (i : Int) (n : Int)))) ([cells false 1 (nth [encPacks x]), cells false 2 (nth [encPacks x, encR gl]), cells false 8 fun (j : Nat) => int u64 (↑(M k j) : Int), cells false 8 fun (j : Nat) => int u64 (↑(B j) : Int), cells false 1 (nth [int i64 (i : Int)]), cells false 1 (nth [int i64 (n : Int)])])) (fun _ => by kernel_rfl) ⟨(by kernel_rfl), ⟨(by omega), ⟨(by omega), ⟨(by omega), ⟨(by omega), ⟨(by omega), ⟨(by omega), ⟨(by omega), ⟨⟨rfl, (Go.Avm.Pack.c_everyF_PackRange _ _ _ _ _ _ _ _ _ _ (by omega) (by kernel_rfl) (fun r _ => (does_subT (T := LT) inferInstance [2, 1, 4, 5] 6 (fun R _ g => Go.Avm.Pack.c_Trim1 R (x) (gl) (M k) ((i : Int)) ((n : Int)) (r) g (by omega) (by omega) (by omega) (by simp at * <;> omega) ?_) rfl rfl rfl (by exact ⟨⟨rfl, Nat.le_refl _, fun j hj => match j, hj with | 0, _ => (Le.refl _) | 1, _ => (Le.refl _) | 2, _ => (Le.refl _) | 3, _ => (Le.refl _) | 4, _ => (Le.refl _) | 5, _ => (Le.refl _) | 6, _ => (Le.refl _) | 7, _ => (Le.refl _) ⟩, ⟨⟨rfl, Nat.le_refl _, fun j hj => match j, hj with | 0, _ => (Le.refl _) | 1, _ => (Le.refl _) ⟩, ⟨⟨rfl, Nat.le_refl _, fun j hj => match j, hj with | 0, _ => (Le.refl _) ⟩, ⟨⟨rfl, Nat.le_refl _, fun j hj => match j, hj with | 0, _ => (Le.refl _) ⟩, trivial⟩⟩⟩⟩) (by exact ⟨by omega, ⟨by omega, ⟨by omega, ⟨by omega, trivial⟩⟩⟩⟩) (by exact ⟨le_ren (by exact ⟨⟨⟨trivial, trivial⟩, trivial⟩, trivial⟩), ⟨(Le.refl _), ⟨(Le.refl _), ⟨(Le.refl _), ⟨(Le.refl _), trivial⟩⟩⟩⟩⟩) (by exact le_unren (by exact trivial)) (by exact ⟨LeO.rflc, ⟨⟨rfl, Nat.le_refl _, fun j hj => match j, hj with | 0, _ => (Le.refl _) | 1, _ => (Le.refl _) ⟩, ⟨⟨rfl, Nat.le_refl _, fun j hj => match j, hj with | 0, _ => (Le.refl _) | 1, _ => (Le.refl _) | 2, _ => (Le.refl _) | 3, _ => (Le.refl _) | 4, _ => (Le.refl _) | 5, _ => (Le.refl _) | 6, _ => (Le.refl _) | 7, _ => (Le.refl _) ⟩, ⟨LeO.rflc, ⟨⟨rfl, Nat.le_refl _, fun j hj => match j, hj with | 0, _ => (Le.refl _) ⟩, ⟨⟨rfl, Nat.le_refl _, fun j hj => match j, hj with | 0, _ => (Le.refl _) ⟩, trivial⟩⟩⟩⟩⟩⟩))))⟩, ⟨fun c1 => have c1 : List.all ((x.l.getD i default).l.getD n default).needs.l (needB x (M k) (i : Int) (n : Int)) = false := ((Bool.not_eq_true' _).mp c1); ⟨(by kernel_rfl), ⟨(by omega), ⟨(by omega), ⟨(by omega), ⟨(by omega), ⟨(by omega), ⟨(by omega), ⟨(by omega), ?_⟩⟩⟩⟩⟩⟩⟩⟩, fun c1 => have c1 : List.all ((x.l.getD i default).l.getD n default).needs.l (needB x (M k) (i : Int) (n : Int)) = true := ((Bool.not_eq_false' _).mp c1); ?_⟩⟩⟩⟩⟩⟩⟩⟩⟩⟩
        ·exact need_pack hx (show i < x.l.length by omega) hnlt _ (by assumption)
        ·have e2 : M (k + 1) = updN (M k) i (clrS (M k i) n) := by rw [hMk']; unfold dropK; rw [c1]; rfl
         rw [e2]
         refine (rnd_next rfl (to_sel [0, 1, 2, 3, 4] 6 rfl rfl rfl rfl rfl trivial ⟨⟨rfl, Nat.le_refl _, fun j hj => match j, hj with | 0, _ => (Le.refl _) ⟩, ⟨⟨rfl, Nat.le_refl _, fun j hj => match j, hj with | 0, _ => (Le.refl _) | 1, _ => (Le.refl _) ⟩, ⟨(LeO.cells (fun j hj => ?_)), ⟨⟨rfl, Nat.le_refl _, fun j hj => match j, hj with | 0, _ => (Le.refl _) | 1, _ => (Le.refl _) | 2, _ => (Le.refl _) | 3, _ => (Le.refl _) | 4, _ => (Le.refl _) | 5, _ => (Le.refl _) | 6, _ => (Le.refl _) | 7, _ => (Le.refl _) ⟩, ⟨⟨rfl, Nat.le_refl _, fun j hj => match j, hj with | 0, _ => (Le.refl _) ⟩, trivial⟩⟩⟩⟩⟩))
         rw [over_eq]
         by_cases h : j = i
         ·subst h
          rw [if_pos (by omega)]
          refine (clrU (M k j) n (hMk j).1 hn5).trans ?_
          show AV.int .u64 _ = AV.int .u64 _
          unfold updN
          rw [if_pos rfl]
         ·rw [if_neg (by omega)]
          show AV.int .u64 _ = AV.int .u64 _
          unfold updN
          rw [if_neg h]
        ·have e2 : M (k + 1) = M k := by rw [hMk']; unfold dropK; rw [if_pos c1]
         rw [e2]
         refine (rnd_next rfl (to_sel [0, 1, 2, 3, 4] 6 rfl rfl rfl rfl rfl trivial ⟨⟨rfl, Nat.le_refl _, fun j hj => match j, hj with | 0, _ => (Le.refl _) ⟩, ⟨⟨rfl, Nat.le_refl _, fun j hj => match j, hj with | 0, _ => (Le.refl _) | 1, _ => (Le.refl _) ⟩, ⟨⟨rfl, Nat.le_refl _, fun j hj => match j, hj with | 0, _ => (Le.refl _) | 1, _ => (Le.refl _) | 2, _ => (Le.refl _) | 3, _ => (Le.refl _) | 4, _ => (Le.refl _) | 5, _ => (Le.refl _) | 6, _ => (Le.refl _) | 7, _ => (Le.refl _) ⟩, ⟨⟨rfl, Nat.le_refl _, fun j hj => match j, hj with | 0, _ => (Le.refl _) | 1, _ => (Le.refl _) | 2, _ => (Le.refl _) | 3, _ => (Le.refl _) | 4, _ => (Le.refl _) | 5, _ => (Le.refl _) | 6, _ => (Le.refl _) | 7, _ => (Le.refl _) ⟩, ⟨⟨rfl, Nat.le_refl _, fun j hj => match j, hj with | 0, _ => (Le.refl _) ⟩, trivial⟩⟩⟩⟩⟩))
       ·have e1 := hMe
        refine vcQ [] (lkL [(18, [1, 4, 5, 8, 36, 37])]) (fun _ => []) (fun Q => (-9223372036854775808 ≤ (i : Int) + 1 ∧ (i : Int) + 1 ≤ 9223372036854775807) ∧ Q AEx.normal (St.mk [(1, ref 0 0), (4, ref 1 0), (5, ref 2 0), (8, ref 3 0), (36, int i64 (x.l.length : Int)), (37, int i64 ((i : Int) + 1))] [cells false 1 (nth [encPacks x]), cells false 2 (nth [encPacks x, encR gl]), cells false 8 fun (j : Nat) => int u64 (↑(M (l.length) j) : Int), cells false 8 fun (j : Nat) => int u64 (↑(B j) : Int), cells false 1 (nth [int i64 (i : Int)]), dead] g)) (fun _ => by kernel_rfl) ⟨(by omega), ?_⟩
        refine (next_round (i + 1) (to_sel [0, 1, 2, 3] 6 rfl rfl rfl rfl rfl ⟨(Le.refl _), ⟨(Le.refl _), ⟨(Le.refl _), ⟨(Le.refl _), ⟨(Le.refl _), ⟨(Le.refl _), trivial⟩⟩⟩⟩⟩⟩ ⟨⟨rfl, Nat.le_refl _, fun j hj => match j, hj with | 0, _ => (Le.refl _) ⟩, ⟨⟨rfl, Nat.le_refl _, fun j hj => match j, hj with | 0, _ => (Le.refl _) | 1, _ => (Le.refl _) ⟩, ⟨(LeO.cells (fun j hj => ?_)), ⟨⟨rfl, Nat.le_refl _, fun j hj => match j, hj with | 0, _ => (Le.refl _) | 1, _ => (Le.refl _) | 2, _ => (Le.refl _) | 3, _ => (Le.refl _) | 4, _ => (Le.refl _) | 5, _ => (Le.refl _) | 6, _ => (Le.refl _) | 7, _ => (Le.refl _) ⟩, trivial⟩⟩⟩⟩) ?_ ?_)
        ·show AV.int .u64 _ = AV.int .u64 _
         rw [e1]
        ·omega
        ·omega
      ·have : i = x.l.length := by omega
       subst this
       refine ⟨_, To.refl _, vcQ [] (lkL [(19, [1, 4, 5, 67])]) (lkL [(19, [(2, ROrc.kop (AV.bool (decide (∀ (j : Nat), j < 8 → (↑(roundN x B (x.l.length) j) : Int) = (↑(B j) : Int)))))])]) (fun Q => (fun (u1 : List AObj) => (fun (u2 : Bool) => (fun (u3 : Int) => (fun (u4 : St R.σ) => 8 ≤ 8 ∧ 8 ≤ 8 ∧ OpOk Tryd.prog R (Oper.mk (some 67) (Op.binOp BinOp.eql 76 (Operand.tmp 65) (Operand.tmp 66) 76) 4 "pack.go:217" #[Edge.mk 0 Ground.data, Edge.mk 1 Ground.data] none) (evO [Row.mk (some 66) none (agg 8 fun (j : Nat) => int u64 (↑(B j) : Int)) false (some []) [3], Row.mk (some 65) none (agg 8 fun (j : Nat) => int u64 (↑(roundN x B (x.l.length) j) : Int)) false (some []) [2]] [(1, ref 0 0), (4, ref 1 0), (5, ref 2 0), (8, ref 3 0), (36, int i64 u3), (37, int i64 u3), (38, AV.bool (decide (u3 < u3)))] []) u1 g (AV.bool u2) u1 g ∧ (u2 = true → Q (AEx.exit 2) u4) ∧ (u2 = false → Q AEx.normal u4)) (St.mk [(1, ref 0 0), (4, ref 1 0), (5, ref 2 0), (67, AV.bool u2)] u1 g)) ((x.l.length : Int))) (decide (∀ (j : Nat), j < 8 → (↑(roundN x B (x.l.length) j) : Int) = (↑(B j) : Int)))) ([cells false 1 (nth [encPacks x]), cells false 2 (nth [encPacks x, encR gl]), cells false 8 fun (j : Nat) => int u64 (↑(roundN x B (x.l.length) j) : Int), cells false 8 fun (j : Nat) => int u64 (↑(B j) : Int)])) (fun _ => by kernel_rfl) ⟨(by omega), ⟨(by omega), ⟨?_, ⟨fun c1 => have c1 : ∀ (j : Nat), j < 8 → (↑(roundN x B (x.l.length) j) : Int) = (↑(B j) : Int) := (of_decide_eq_true c1); ?_, fun c1 => have c1 : ¬∀ (j : Nat), j < 8 → (↑(roundN x B (x.l.length) j) : Int) = (↑(B j) : Int) := (of_decide_eq_false c1); ?_⟩⟩⟩⟩⟩
       ·exact opOk_eqArr rfl rfl rfl Tryd.underlying76 Tryd.underlying75 (by kernel_rfl) (by kernel_rfl) (by kernel_rfl)
       ·have e3 : roundN x B x.l.length = B := funext fun j => by
         rcases Nat.lt_or_ge j 8 with hj | hj
         ·have := c1 j hj; omega
         ·have h1 := ((sets_round hBs x.l.length) j).2.1 (by omega)
          have h2 := (hBs j).2.1 (by omega)
          omega
        have e4 : B = trimL x := by
         have hfix := (trimY_fix hx).2
         have hyY : y = trimY x := by
          refine Nat.le_antisymm hy (Nat.le_of_not_lt fun hlt => hfix y hlt ?_)
          show roundN x (trimN x y) x.l.length = trimN x y
          rw [hB]; exact e3
         rw [← hB, hyY]; rfl
        have hLs : setsL x (trimL x) := by rw [← e4]; exact hBs
        rw [e3, e4]
        refine contQ_blkE (by kernel_rfl) ?_
        refine ⟨_, To.refl _, vcQ [] (lkL [(20, [1, 5, 11]), (21, [5, 11, 70, 71])]) (fun _ => []) (fun Q => (fun (u1 : AObj) => 1 ≤ 1 ∧ Wp Tryd.prog R 84 0 Rd.top (bodyOf Tryd.prog 9) [1, 1, 1, 1, 1, 1, 1, 0, 1, 0] (contQ Tryd.prog R 84 0 Rd.top (bodyOf Tryd.prog 9) Q [Kont.blk 8, Kont.seq [1, 1, 1, 1, 1, 1, 1, 1]]) (St.mk [(5, ref 2 0), (11, fz Fz.nil 0 0 fun _ _ => any), (70, int i64 (x.l.length : Int)), (71, int i64 0)] [cells false 1 (nth [encPacks x]), cells false 2 (nth [encPacks x, encR gl]), u1, u1] g)) (cells false 8 fun (j : Nat) => int u64 (↑(trimL x j) : Int))) (fun _ => by kernel_rfl) ⟨(by omega), ?_⟩⟩
        refine (wp_loop (by kernel_rfl) (fun (i : Nat) => ⟨[(5, ref 2 0), (11, .ow true 4 i 1), (70, int i64 (x.l.length : Int)), (71, .int .i64 i)], [.cells false 1 (nth [encPacks x]), .cells false 2 (nth [encPacks x, encR gl]), .cells false 8 (fun j => .int .u64 (trimL x j)), .cells false 8 (fun j => .int .u64 (trimL x j)), .cells false (i * 1) (llC (fun i => memS (trimL x i)))], g⟩) (fun (i : Nat) => (i ≤ x.l.length)) (fun (i : Nat) => (x.l.length - i)) 0 (To.trans (to_ghost (fun _ => .any)) (to_le ⟨(Le.refl _), ⟨Le.nil_ow, ⟨(Le.refl _), ⟨(Le.of_eq (by kernel_rfl)), trivial⟩⟩⟩⟩ ⟨LeO.rflc, ⟨LeO.rflc, ⟨LeO.rflc, ⟨LeO.rflc, ⟨⟨rfl, Nat.le_refl _, fun j hj => absurd hj (Nat.not_lt_zero j)⟩, trivial⟩⟩⟩⟩⟩ rfl)) ?_ (fun i hi => ?_))
        ·exact Nat.zero_le _
        ·have hi3 := hi
         have hs32 := (hLs i).1
         refine vcQ [] (lkL [(22, [5, 11, 70, 71, 72]), (23, [5, 11, 12, 70, 71]), (24, [5, 11, 70, 71]), (25, [5, 11, 70, 71])]) (lkL [(24, [(4, ROrc.call (fn 75 0 (nth []) 1 (nth [ref (List.length [cells false 1 (nth [encPacks x]), cells false 2 (nth [encPacks x, encR gl]), cells false 8 fun (j : Nat) => int u64 (↑(trimL x j) : Int), cells false 8 fun (j : Nat) => int u64 (↑(trimL x j) : Int), cells false (i * 1) fun (i : Nat) => fz Fz.auto 1 ((memS (trimL x i)).length) fun (k x_1 : Nat) => int i64 (↑((memS (trimL x i)).getD k 0) : Int)]) 0])) ([cells false 1 (nth [encPacks x]), cells false 2 (nth [encPacks x, encR gl]), cells false 8 fun (j : Nat) => int u64 (↑(trimL x j) : Int), cells false 8 fun (j : Nat) => int u64 (↑(trimL x j) : Int), cells false (i * 1) fun (i : Nat) => fz Fz.auto 1 ((memS (trimL x i)).length) fun (k x_1 : Nat) => int i64 (↑((memS (trimL x i)).getD k 0) : Int)] ++ [cells false 1 fun (x_1 : Nat) => int u64 (↑(trimL x i) : Int)]) g), (5, ROrc.call (fz Fz.auto 1 ((memS (trimL x i)).length) fun (i_1 x_1 : Nat) => int i64 (↑((memS (trimL x i)).getD i_1 0) : Int)) [cells false 1 (nth [encPacks x]), cells false 2 (nth [encPacks x, encR gl]), cells false 8 fun (j : Nat) => int u64 (↑(trimL x j) : Int), cells false 8 fun (j : Nat) => int u64 (↑(trimL x j) : Int), cells false (i * 1) fun (i : Nat) => fz Fz.auto 1 ((memS (trimL x i)).length) fun (k x_1 : Nat) => int i64 (↑((memS (trimL x i)).getD k 0) : Int), cells false 1 fun (j : Nat) => any] g), (7, ROrc.val (Orc.obj (llC fun (i : Nat) => memS (trimL x i))))])]) (fun Q => (fun (u1 : AObj) => (fun (u2 : AObj) => (fun (u3 : AV) => (fun (u4 : AObj) => (fun (u5 : Int) => (fun (u6 : AObj) => (fun (u7 : Int) => (fun (u8 : List AObj) => (decide (u7 < u5) = true → (0 ≤ u7 ∧ u7 < (↑8 : Int)) ∧ i + 1 ≤ 8 ∧ (true = true ∧ Does Tryd.prog R 38 [int u64 (↑(trimL x i) : Int)] [u6, u4, u1, u1, u2] g (ret (fn 75 0 (nth []) 1 (nth [ref 5 0]))) u8 g) ∧ (true = true ∧ Does Tryd.prog R 43 [fn 75 0 (nth []) 1 (nth [ref 5 0])] u8 g (ret u3) [u6, u4, u1, u1, u2, cells false 1 fun (j : Nat) => any] g) ∧ 0 < 1 ∧ (i + 1) * 24 ≤ maxRoom ∧ i + 1 ≤ maxRoom ∧ 1 ≤ 1 ∧ i * 1 ≤ i * 1 ∧ (∀ (c : Nat), c < (i + 1) * 1 → (fz Fz.auto 1 ((memS (trimL x c)).length) fun (k x_2 : Nat) => int i64 (↑((memS (trimL x c)).getD k 0) : Int)) = plainJ 1 i (fun (i j : Nat) => fz Fz.auto 1 ((memS (trimL x (i * 1 + j))).length) fun (k x_2 : Nat) => int i64 (↑((memS (trimL x (i * 1 + j))).getD k 0) : Int)) (fun (i j : Nat) => over (fun (j : Nat) => fz Fz.nil 0 0 fun (x x_2 : Nat) => any) 0 1 (fun (x : Nat) => u3) (0 + i * 1 + j)) c) ∧ (-9223372036854775808 ≤ u7 + 1 ∧ u7 + 1 ≤ 9223372036854775807) ∧ Q AEx.normal (St.mk [(5, ref 2 0), (11, ow true 7 (i + 1) 1), (70, int i64 u5), (71, int i64 (u7 + 1))] [u6, u4, u1, u1, dead, cells false 1 fun (j : Nat) => any, cells false 1 (over (fun (j : Nat) => fz Fz.nil 0 0 fun (x x_2 : Nat) => any) 0 1 fun (x : Nat) => u3), cells false ((i + 1) * 1) fun (a : Nat) => fz Fz.auto 1 ((memS (trimL x a)).length) fun (k x_2 : Nat) => int i64 (↑((memS (trimL x a)).getD k 0) : Int)] g)) ∧ (decide (u7 < u5) = false → Q (AEx.exit 8) (St.mk [(5, ref 2 0), (11, ow true 4 i 1), (70, int i64 u5), (71, int i64 u7), (72, AV.bool (decide (u7 < u5)))] [u6, u4, u1, u1, u2] g))) ([u6, u4, u1, u1, u2, cells false 1 fun (x_1 : Nat) => int u64 (↑(trimL x i) : Int)])) ((i : Int))) (cells false 1 (nth [encPacks x]))) ((x.l.length : Int))) (cells false 2 (nth [encPacks x, encR gl]))) (fz Fz.auto 1 ((memS (trimL x i)).length) fun (i_1 x_1 : Nat) => int i64 (↑((memS (trimL x i)).getD i_1 0) : Int))) (cells false (i * 1) fun (i : Nat) => fz Fz.auto 1 ((memS (trimL x i)).length) fun (k x_1 : Nat) => int i64 (↑((memS (trimL x i)).getD k 0) : Int))) (cells false 8 fun (j : Nat) => int u64 (↑(trimL x j) : Int))) (fun _ => by kernel_rfl) ⟨fun c1 => have c1 : (i : Int) < (x.l.length : Int) := (of_decide_eq_true c1); ⟨(by omega), ⟨(by omega), ⟨⟨rfl, (Go.Avm.Pack.c_members _ _ _ _)⟩, ⟨⟨rfl, (does_subT (T := LT) inferInstance [5] 6 (fun R _ g => Go.Avm.Pack.c_Collect R (trimL x i) (by omega) g) rfl rfl rfl (by exact ⟨⟨rfl, Nat.le_refl _, fun j hj => match j, hj with | 0, _ => (Le.refl _) ⟩, trivial⟩) (by exact ⟨by omega, trivial⟩) (by exact ⟨(Le.fn (fun i hi => absurd hi (by omega)) (fun i hi => match i, hi with | 0, _ => (Le.refl _) )), trivial⟩) (by exact le_unren (by exact trivial)) (by exact ⟨LeO.rflc, ⟨LeO.rflc, ⟨LeO.rflc, ⟨LeO.rflc, ⟨LeO.rflc, ⟨LeO.rflc, trivial⟩⟩⟩⟩⟩⟩))⟩, ⟨(by omega), ⟨?_, ⟨?_, ⟨(by omega), ⟨(by omega), ⟨?_, ⟨(by omega), ?_⟩⟩⟩⟩⟩⟩⟩⟩⟩⟩⟩, fun c1 => have c1 : ¬(i : Int) < (x.l.length : Int) := (of_decide_eq_false c1); ?_⟩
         ·unfold maxRoom; omega
         ·unfold maxRoom; omega
         ·intro c hc
          exact llC_append (l := fun i => memS (trimL x i)) hc
         ·refine (next_round (i + 1) (to_sel [0, 1, 2, 3, 7] 8 rfl rfl rfl rfl rfl ⟨(Le.refl _), ⟨(Le.refl _), ⟨(Le.refl _), ⟨(Le.refl _), trivial⟩⟩⟩⟩ ⟨⟨rfl, Nat.le_refl _, fun j hj => match j, hj with | 0, _ => (Le.refl _) ⟩, ⟨⟨rfl, Nat.le_refl _, fun j hj => match j, hj with | 0, _ => (Le.refl _) | 1, _ => (Le.refl _) ⟩, ⟨⟨rfl, Nat.le_refl _, fun j hj => match j, hj with | 0, _ => (Le.refl _) | 1, _ => (Le.refl _) | 2, _ => (Le.refl _) | 3, _ => (Le.refl _) | 4, _ => (Le.refl _) | 5, _ => (Le.refl _) | 6, _ => (Le.refl _) | 7, _ => (Le.refl _) ⟩, ⟨⟨rfl, Nat.le_refl _, fun j hj => match j, hj with | 0, _ => (Le.refl _) | 1, _ => (Le.refl _) | 2, _ => (Le.refl _) | 3, _ => (Le.refl _) | 4, _ => (Le.refl _) | 5, _ => (Le.refl _) | 6, _ => (Le.refl _) | 7, _ => (Le.refl _) ⟩, ⟨?_, trivial⟩⟩⟩⟩⟩) ?_ ?_)
          ·exact LeO.refl _
          ·omega
          ·omega
         ·have : i = x.l.length := by omega
          subst this
          refine ⟨_, To.refl _, vcQ [] (lkL [(26, [2, 3])]) (fun _ => []) (fun Q => Q AEx.ret (St.mk [(2, ow true 4 (x.l.length) 1), (3, int i64 0)] [cells false 1 (nth [encPacks x]), cells false 2 (nth [encPacks x, encR gl]), cells false 8 fun (j : Nat) => int u64 (↑(trimL x j) : Int), cells false 8 fun (j : Nat) => int u64 (↑(trimL x j) : Int), cells false (x.l.length * 1) fun (i : Nat) => fz Fz.auto 1 ((memS (trimL x i)).length) fun (k x_1 : Nat) => int i64 (↑((memS (trimL x i)).getD k 0) : Int)] g)) (fun _ => by kernel_rfl) (?_)⟩
          refine (retQ_le (retQ_frz 0 [4] _ _ rfl trivial (by omega) (by exact ⟨(fun _ _ => trivial), ⟨⟨⟨trivial, Nat.le_refl _⟩, trivial⟩, trivial⟩⟩) (by exact ⟨⟨trivial, trivial⟩, trivial⟩) (by exact trivial) (by kernel_rfl) rfl rfl) (Le.tup (fun j hj => match j, hj with | 0, _ => (leK_ok rfl (fun i j hi hj => ?_)) | 1, _ => (Le.of_eq (by kernel_rfl)) )))
          show llC (fun i => memS (trimL x i)) (i * 1 + j) = llC (fun i => memS (trimL x i)) i
          rw [show i * 1 + j = i by omega]
       ·have hlt : y < trimY x := by
         refine Nat.lt_of_le_of_ne hy (fun e => c1 fun j _ => ?_)
         have h := congrFun ((trimY_fix hx).1) j
         rw [← e] at h
         have h : roundN x (trimN x y) x.l.length j = trimN x y j := h
         rw [hB] at h
         rw [h]
        refine contQ_blkN ?_
        refine (next_round (y + 1) (to_sel [0, 1, 2] 4 rfl rfl rfl rfl rfl ⟨(Le.refl _), ⟨(Le.refl _), ⟨(Le.refl _), ⟨Le.any _, ⟨Le.any _, ⟨Le.any _, ⟨Le.any _, trivial⟩⟩⟩⟩⟩⟩⟩ ⟨⟨rfl, Nat.le_refl _, fun j hj => match j, hj with | 0, _ => (Le.refl _) ⟩, ⟨⟨rfl, Nat.le_refl _, fun j hj => match j, hj with | 0, _ => (Le.refl _) | 1, _ => (Le.refl _) ⟩, ⟨(LeO.cells (fun j hj => ?_)), trivial⟩⟩⟩) ?_ ?_)
        ·show AV.int .u64 _ = AV.int .u64 _
         rw [show trimN x (y + 1) = roundN x (trimN x y) x.l.length from rfl, hB]
        ·omega
        ·omega
end Go.Avm.Pack
namespace Go.Avm.Pack
open Go Go.Avm Go.Proofs
open Go.IntKind (i64 u64)
open Go.Avm.AV (int bool any fz fp sl ow ref fn ifc val agg tup)
open Go.Avm.AObj (cells dead)
open Go.Avm.Oc (ret)
set_option maxRecDepth 4000

def closedL (x : Ix) (S : Nat → Nat) : Prop := ∀ i k, i < x.l.length → k ∈ memS (S i) → ((x.l.getD i default).l.getD k default).needs.l.all (needB x S i k) = true
def subL (S L : Nat → Nat) : Prop := ∀ j n, n ∈ memS (S j) → n ∈ memS (L j)
theorem needB_mono {x : Ix} {S L : Nat → Nat} (h : subL S L) {i k : Int} {r : Rng} (hn : needB x S i k r = true) : needB x L i k r = true := by
 unfold needB at hn ⊢
 rw [List.any_eq_true] at hn ⊢
 obtain ⟨n, h1, h2⟩ := hn
 exact ⟨n, h _ _ h1, h2⟩
theorem all_mono {α : Type} {l : List α} {p q : α → Bool} (h : ∀ a, p a = true → q a = true) (hp : l.all p = true) : l.all q = true := by
 rw [List.all_eq_true] at hp ⊢
 exact fun a ha => h a (hp a ha)
theorem drop_max {x : Ix} {S L : Nat → Nat} {i k : Nat} (hi : i < x.l.length) (hS : closedL x S) (hL : setsL x L) (h : subL S L) : subL S (dropK x i L k) := by
 intro j n hn
 unfold dropK
 split
 ·exact h j n hn
 ·rename_i hno
  unfold updN
  split
  ·rename_i e
   subst e
   refine (clr_mem (hL j).1).2 ⟨h _ _ hn, fun e => hno ?_⟩
   subst e
   exact all_mono (fun r hr => needB_mono h hr) (hS j n hi hn)
  ·exact h j n hn
theorem fold_max {x : Ix} {S : Nat → Nat} {i : Nat} (hi : i < x.l.length) (hS : closedL x S) : ∀ (l : List Nat) (L : Nat → Nat), setsL x L → subL S L → subL S (l.foldl (dropK x i) L)
 | [], _, _, h => h
 | k :: r, _, hL, h => fold_max hi hS r _ (sets_drop hL i k) (drop_max hi hS hL h)
theorem round_max {x : Ix} {S B : Nat → Nat} (hS : closedL x S) (hB : setsL x B) (h : subL S B) : ∀ i, i ≤ x.l.length → subL S (roundN x B i)
 | 0, _ => h
 | i + 1, hi => fold_max (by omega) hS _ _ (sets_round hB i) (round_max hS hB h i (by omega))
theorem trim_max {x : Ix} {S : Nat → Nat} (hx : formedB x = true) (hS : closedL x S) (h : subL S (fullN x x.l.length)) : ∀ y, subL S (trimN x y)
 | 0 => h
 | y + 1 => round_max hS (sets_trim hx y) (trim_max hx hS h y) _ (Nat.le_refl _)
theorem fold_fix {x : Ix} {i : Nat} {B : Nat → Nat} : ∀ (l : List Nat), l.foldl (dropK x i) B = B → ∀ k, k ∈ l → dropK x i B k = B
 | [], _, k, hk => by simp at hk
 | a :: r, h, k, hk => by
   have h' : r.foldl (dropK x i) (dropK x i B a) = B := h
   have ha : dropK x i B a = B := funext fun j => by
    have h1 := fold_le r (dropK x i B a) (x := x) (i := i) j
    rw [h'] at h1
    have h2 := drop_le x i B a j
    omega
   rw [ha] at h'
   rcases List.mem_cons.1 hk with rfl | hk
   ·exact ha
   ·exact fold_fix r h' k hk
theorem round_fix {x : Ix} {B : Nat → Nat} : ∀ n, roundN x B n = B → ∀ i, i < n → dropI x B B i = B
 | 0, _, i, hi => by omega
 | n + 1, h, i, hi => by
   have h' : dropI x B (roundN x B n) n = B := h
   have hn : roundN x B n = B := funext fun j => by
    have h1 : dropI x B (roundN x B n) n j ≤ roundN x B n j := fold_le _ _ j
    rw [h'] at h1
    have h2 := round_le x B n j
    omega
   rcases Nat.lt_or_ge i n with hin | hin
   ·exact round_fix n hn i hin
   ·have : i = n := by omega
    subst this
    rw [hn] at h'
    exact h'
theorem trim_closed {x : Ix} (hx : formedB x = true) : closedL x (trimL x) := by
 intro i k hi hk
 have hfix := (trimY_fix hx).1
 have h1 : roundN x (trimL x) x.l.length = trimL x := hfix
 have h2 := fold_fix _ (round_fix _ h1 i hi) k hk
 have hs := sets_trim hx (trimY x)
 cases hc : ((x.l.getD i default).l.getD k default).needs.l.all (needB x (trimL x) i k) with
 | true => rfl
 | false =>
   exfalso
   have h3 := congrFun h2 i
   unfold dropK at h3
   rw [hc] at h3
   have h3 : clrS (trimL x i) k = trimL x i := by simpa [updN] using h3
   have h4 := (clr_mem (n := k) (k := k) (hs i).1).1 (by
    show k ∈ memS (clrS (trimL x i) k)
    rw [h3]; exact hk)
   exact h4.2 rfl
theorem full_mem {x : Ix} (hx : formedB x = true) {i k : Nat} (hi : i < x.l.length) (hk : k < (x.l.getD i default).l.length) : k ∈ memS (fullN x x.l.length i) := by
 have h5 := formed_five hx hi
 unfold fullN
 rw [if_pos hi]
 rw [mem_memS]
 refine ⟨by omega, ?_⟩
 rw [Nat.testBit_two_pow_sub_one]
 exact decide_eq_true hk
def setOf (p : Nat → Bool) : Nat := (if p 0 then 1 else 0) + (if p 1 then 2 else 0) + (if p 2 then 4 else 0) + (if p 3 then 8 else 0) + (if p 4 then 16 else 0)
theorem setOf_mem (p : Nat → Bool) (n : Nat) : n ∈ memS (setOf p) ↔ n < 5 ∧ p n = true := by
 have h : ∀ a b c d e : Bool, (List.range 5).all (fun n => ((if a then 1 else 0) + (if b then 2 else 0) + (if c then 4 else 0) + (if d then 8 else 0) + (if e then 16 else 0) : Nat).testBit n == (match n with | 0 => a | 1 => b | 2 => c | 3 => d | _ => e)) = true := by decide
 rw [mem_memS]
 constructor
 ·rintro ⟨h1, h2⟩
  have := eq_of_beq ((List.all_eq_true.1 (h (p 0) (p 1) (p 2) (p 3) (p 4))) n (by simpa using h1))
  refine ⟨h1, ?_⟩
  unfold setOf at h2
  rw [h2] at this
  match n, h1 with
  | 0, _ => exact this.symm
  | 1, _ => exact this.symm
  | 2, _ => exact this.symm
  | 3, _ => exact this.symm
  | 4, _ => exact this.symm
 ·rintro ⟨h1, h2⟩
  have := eq_of_beq ((List.all_eq_true.1 (h (p 0) (p 1) (p 2) (p 3) (p 4))) n (by simpa using h1))
  refine ⟨h1, ?_⟩
  unfold setOf
  rw [this]
  match n, h1 with
  | 0, _ => exact h2
  | 1, _ => exact h2
  | 2, _ => exact h2
  | 3, _ => exact h2
  | 4, _ => exact h2
end Go.Avm.Pack
namespace Go.Avm.Pack
open Go Go.Avm Go.Proofs
open Go.IntKind (i64 u64)
open Go.Avm.AV (int bool any fz fp sl ow ref fn ifc val agg tup)
open Go.Avm.AObj (cells dead)
open Go.Avm.Oc (ret)
set_option maxRecDepth 4000

theorem metB_iff {p : Nat → Int} {r : Rng} : metB p r = true ↔ r.low ≤ p r.pack.toNat ∧ p r.pack.toNat ≤ r.high := by
 unfold metB inR
 exact decide_eq_true_iff
theorem keeps_left {x : Ix} {gl : List Rng} {p : Nat → Int} (hx : formedB x = true) (hin : inP x p) (h : KeepsAll x gl p) {i : Nat} (hi : i < x.l.length) (hp : p i ≠ -1) : (p i).toNat ∈ memS (trimL x i) := by
 let S : Nat → Nat := fun j => if j < x.l.length then setOf (fun n => decide ((n : Int) = p j)) else 0
 have hS : ∀ j n, j < x.l.length → (n ∈ memS (S j) ↔ (n : Int) = p j) := fun j n hj => by
  show n ∈ memS (if j < x.l.length then _ else 0) ↔ _
  rw [if_pos hj, setOf_mem]
  simp only [decide_eq_true_eq]
  have h1 := (hin j hj).2
  have h5 := formed_five hx hj
  exact ⟨fun h => h.2, fun h => ⟨by omega, h⟩⟩
 have hcl : closedL x S := fun j k hj hk => by
  have hk := (hS j k hj).1 hk
  have hne : p j ≠ -1 := by omega
  have hrel : relOf x p j = (x.l.getD j default).l.getD k default := by rw [relOf_some hne]; congr 1; omega
  have hlow := formed_low hx hin hj
  rw [List.all_eq_true]
  intro r hr
  have hkl : k < (x.l.getD j default).l.length := by have := (hin j hj).2; omega
  have hpk := need_pack hx hj hkl r hr
  have hmet := metB_iff.1 (h.need j hj hne r (by rw [hrel]; exact hr))
  have hl0 := hlow.1 r (by rw [hrel]; exact hr)
  have hrp : r.pack.toNat < x.l.length := by omega
  have hne2 : p r.pack.toNat ≠ -1 := by omega
  unfold needB
  rw [List.any_eq_true]
  refine ⟨(p r.pack.toNat).toNat, (hS _ _ hrp).2 (by omega), ?_⟩
  have e1 : (((p r.pack.toNat).toNat : Nat) : Int) = p r.pack.toNat := by omega
  rw [e1]
  simp only [Bool.and_eq_true, decide_eq_true_eq, Bool.not_eq_true']
  refine ⟨⟨hmet, ?_⟩, ?_⟩
  ·unfold barsB
   rw [List.any_eq_false]
   intro s hs
   have hb := h.bar j hj hne s (by rw [hrel]; simpa using hs)
   by_cases hsp : s.pack = r.pack
   ·have : ¬ (s.low ≤ p s.pack.toNat ∧ p s.pack.toNat ≤ s.high) := fun h' => by
     rw [metB_iff.2 h'] at hb; cases hb
    rw [hsp] at this
    rw [decide_eq_true hsp, decide_eq_false this]
    simp
   ·rw [decide_eq_false hsp]; simp
  ·unfold barsB
   rw [List.any_eq_false]
   intro s hs
   have hb := h.bar r.pack.toNat hrp hne2 s (by rw [relOf_some hne2]; exact hs)
   by_cases hsp : s.pack = (j : Int)
   ·have : ¬ (s.low ≤ p s.pack.toNat ∧ p s.pack.toNat ≤ s.high) := fun h' => by
     rw [metB_iff.2 h'] at hb; cases hb
    rw [hsp, Int.toNat_natCast, ← hk] at this
    rw [decide_eq_true hsp, decide_eq_false this]
    simp
   ·rw [decide_eq_false hsp]; simp
 have hfull : subL S (fullN x x.l.length) := fun j n hn => by
  by_cases hj : j < x.l.length
  ·have := (hS j n hj).1 hn
   exact full_mem hx hj (by have := (hin j hj).2; omega)
  ·have hn : n ∈ memS (if j < x.l.length then _ else 0) := hn
   rw [if_neg hj] at hn
   simp [memS] at hn
 exact trim_max hx hcl hfull (trimY x) i _ ((hS i _ hi).2 (by have := (hin i hi).1; omega))
end Go.Avm.Pack
namespace Go.Avm.Pack
open Go Go.Avm Go.Proofs
open Go.IntKind (i64 u64)
open Go.Avm.AV (int bool any fz fp sl ow ref fn ifc val agg tup)
open Go.Avm.AObj (cells dead)
open Go.Avm.Oc (ret)
set_option maxRecDepth 4000

def eqZ (c : Int) : Int → Bool := fun v => c == v
theorem c_Index_int (R : Res) (l : KL Int) (c : Int) (hp : List AObj) (g : R.σ) (hl : l.l.length < 1000000) : Does Tryd.prog R 67 [encI l, .int .i64 c] hp g (.ret (.int .i64 (idxFrom (eqZ c) l.l 0))) hp g := by
 refine does_any' (fun R g => ?_) (by exact ⟨trivial, ⟨trivial, trivial⟩⟩) R hp g
 refine spec_of_wp (nt := 19) (rs := [.tmp 4]) (k0 := 0) (by kernel_rfl) (by kernel_rfl) (by kernel_rfl) rfl ?_
 refine vcQ [] (lkL [(0, [0, 1]), (1, [0, 1, 7, 8])]) (fun _ => []) (fun Q => Wp Tryd.prog R 19 0 Rd.top (bodyOf Tryd.prog 67) [1, 0, 1, 0] (contQ Tryd.prog R 19 0 Rd.top (bodyOf Tryd.prog 67) Q [Kont.blk 0, Kont.seq [1, 1]]) (St.mk [(0, encI l), (1, int i64 c), (7, int i64 (l.l.length : Int)), (8, int i64 0)] [] g)) (fun _ => by kernel_rfl) (?_)
 refine (wp_loop (by kernel_rfl) (fun (i : Nat) => ⟨[(0, encI l), (1, int i64 c), (7, int i64 (l.l.length : Int)), (8, .int .i64 (i : Int))], [], g⟩) (fun (i : Nat) => (i ≤ l.l.length ∧ idxFrom (eqZ c) l.l 0 = idxFrom (eqZ c) (l.l.drop i) i)) (fun (i : Nat) => (l.l.length - i)) 0 (to_fr ⟨(Le.refl _), ⟨(Le.refl _), ⟨(Le.refl _), ⟨(Le.of_eq (by kernel_rfl)), trivial⟩⟩⟩⟩ rfl rfl) ?_ (fun i hi => ?_))
 ·exact ⟨Nat.zero_le _, rfl⟩
 ·obtain ⟨h1, h2⟩ := hi
  refine vcQ [] (lkL [(2, [0, 1, 7, 8, 9]), (3, [0, 1, 5, 7, 8]), (4, [0, 1, 5, 7, 8, 16]), (5, [4]), (6, [0, 1, 7, 8])]) (fun _ => []) (fun Q => (fun (u1 : Int) => (fun (u2 : Int) => (decide (u2 < u1) = true → (0 ≤ u2 ∧ u2 < u1) ∧ 1 ≤ 1 ∧ ((c == l.l.getD i 0) = true → Q AEx.ret (St.mk [(4, int i64 u2)] [] g)) ∧ ((c == l.l.getD i 0) = false → (-9223372036854775808 ≤ u2 + 1 ∧ u2 + 1 ≤ 9223372036854775807) ∧ Q AEx.normal (St.mk [(0, encI l), (1, int i64 c), (7, int i64 u1), (8, int i64 (u2 + 1))] [] g))) ∧ (decide (u2 < u1) = false → Q (AEx.exit 0) (St.mk [(0, encI l), (1, int i64 c), (7, int i64 u1), (8, int i64 u2), (9, AV.bool (decide (u2 < u1)))] [] g))) ((i : Int))) ((l.l.length : Int))) (fun _ => by kernel_rfl) ⟨fun c1 => have c1 : (i : Int) < (l.l.length : Int) := (of_decide_eq_true c1); ⟨(by omega), ⟨(by omega), ⟨fun c2 => have c2 : c = l.l.getD i 0 := (beq_iff_eq.mp c2); ?_, fun c2 => have c2 : ¬c = l.l.getD i 0 := (beq_eq_false_iff_ne.mp c2); ⟨(by omega), ?_⟩⟩⟩⟩, fun c1 => have c1 : ¬(i : Int) < (l.l.length : Int) := (of_decide_eq_false c1); ?_⟩
  ·have c2 : eqZ c (l.l.getD i 0) = true := beq_iff_eq.2 c2
   refine ⟨_, To.refl _, (retQ_le (retQ_same' _ _ rfl trivial rfl rfl rfl) (Le.of_eq ?_))⟩
   show (int i64 (↑i : Int)) = _
   congr 1
   rw [h2, getD_drop l.l 0 (by omega)]; unfold idxFrom; rw [if_pos c2]
  ·have c2 : eqZ c (l.l.getD i 0) = false := beq_eq_false_iff_ne.2 c2
   refine (next_round (i + 1) (to_fr ⟨(Le.refl _), ⟨(Le.refl _), ⟨(Le.refl _), ⟨(Le.of_eq (by kernel_rfl)), trivial⟩⟩⟩⟩ rfl rfl) ?_ ?_)
   ·refine ⟨by omega, ?_⟩
    rw [h2, getD_drop l.l 0 (by omega)]; conv => lhs; unfold idxFrom
    rw [c2]; rfl
   ·omega
  ·refine ⟨_, To.refl _, vcQ [] (lkL [(7, [4])]) (fun _ => []) (fun Q => Q AEx.ret (St.mk [(4, int i64 (-1))] [] g)) (fun _ => by kernel_rfl) (?_)⟩
   refine (retQ_le (retQ_same' _ _ rfl trivial rfl rfl rfl) (Le.of_eq ?_))
   show (int i64 (-1)) = _
   congr 1
   rw [h2, List.drop_eq_nil_of_le (by omega)]; rfl
theorem c_Contains_int (R : Res) (l : KL Int) (c : Int) (hp : List AObj) (g : R.σ) (hl : l.l.length < 1000000) : Does Tryd.prog R 28 [encI l, .int .i64 c] hp g (.ret (.bool (l.l.any (eqZ c)))) hp g := by
 refine does_any' (fun R g => ?_) (by exact ⟨trivial, ⟨trivial, trivial⟩⟩) R hp g
 refine spec_of_wp (nt := 9) (rs := [.tmp 4]) (k0 := 0) (by kernel_rfl) (by kernel_rfl) (by kernel_rfl) rfl ?_
 refine vcQ [] (lkL [(0, [0, 1]), (1, [4])]) (lkL [(1, [(2, ROrc.pcall (int i64 (idxFrom (eqZ c) l.l 0)))])]) (fun Q => (∀ (hp : List AObj) (g : R.σ), true = true ∧ Does Tryd.prog R 67 [encI l, int i64 c] hp g (ret (int i64 (idxFrom (eqZ c) l.l 0))) hp g) ∧ Q AEx.ret (St.mk [(4, AV.bool (decide (idxFrom (eqZ c) l.l 0 ≥ 0)))] [] g)) (fun _ => by kernel_rfl) ⟨(fun _ _ => ⟨rfl, (Go.Avm.Pack.c_Index_int _ _ _ _ _ (by omega))⟩), ?_⟩
 refine (retQ_le (retQ_same' _ _ rfl trivial rfl rfl rfl) (Le.of_eq ?_))
 show (AV.bool (decide (idxFrom (eqZ c) l.l 0 ≥ 0))) = _
 congr 1
 exact idxFrom_any _ _ _
noncomputable def leftI (x : Ix) (i : Nat) : KL Int := ⟨(memS (trimL x i)).map fun (n : Nat) => (n : Int), .auto⟩
def encLs (n : Nat) (q : Nat → KL Int) : AV := .fz .auto 1 n (fun i _ => encI (q i))
theorem leftI_enc (x : Ix) (i : Nat) : encI (leftI x i) = .fz .auto 1 (memS (trimL x i)).length (fun k _ => .int .i64 (((memS (trimL x i)).getD k 0 : Nat) : Int)) := by
 unfold encI leftI
 have e1 : ((memS (trimL x i)).map fun (n : Nat) => (n : Int)).length = (memS (trimL x i)).length := List.length_map _
 have e2 : ∀ k, ((memS (trimL x i)).map fun (n : Nat) => (n : Int)).getD k 0 = (((memS (trimL x i)).getD k 0 : Nat) : Int) := fun k => by
  rw [List.getD_eq_getElem?_getD, List.getElem?_map, List.getD_eq_getElem?_getD]
  cases (memS (trimL x i))[k]? <;> rfl
 simp only [e1, e2]
theorem c_TrimL (R : Res) [Tab LT R] (x : Ix) (L : Nat → KL Int) (hp : List AObj) (g : R.σ) (hs : small x) (hx : formedB x = true) (hL : L = leftI x) : Does Tryd.prog R 9 [encIx x] hp g (.ret (.tup 2 (nth [encLs x.l.length L, .int .i64 0]))) hp g := by
 subst hL
 refine does_anyT' (T := LT) inferInstance (fun R _ g => ?_) (by exact ⟨⟨trivial, trivial⟩, trivial⟩) hp g
 have h := trim_raw R x g hs hx
 have e : encLL x.l.length (fun i => memS (trimL x i)) = encLs x.l.length (leftI x) := by
  unfold encLL encLs
  congr 1
  funext i _
  exact (leftI_enc x i).symm
 rw [e] at h
 exact h
end Go.Avm.Pack
namespace Go.Avm.Pack
open Go Go.Avm Go.Proofs
open Go.IntKind (i64 u64)
open Go.Avm.AV (int bool any fz fp sl ow ref fn ifc val agg tup)
open Go.Avm.AObj (cells dead)
open Go.Avm.Oc (ret)
set_option maxRecDepth 4000

theorem left_len {x : Ix} {j : Nat} : (leftI x j).l.length ≤ 5 := by
 unfold leftI
 rw [List.length_map]
 exact memS_le _
theorem left_has {x : Ix} {j k : Nat} : (leftI x j).l.any (eqZ k) = decide (k ∈ memS (trimL x j)) := by
 rw [Bool.eq_iff_iff, decide_eq_true_iff, List.any_eq_true]
 unfold leftI eqZ
 constructor
 ·rintro ⟨v, hv, he⟩
  obtain ⟨n, hn, rfl⟩ := List.mem_map.1 hv
  have : (k : Int) = n := by simpa using he
  have : k = n := by omega
  subst this; exact hn
 ·exact fun h => ⟨k, List.mem_map.2 ⟨k, h, rfl⟩, by simp⟩
end Go.Avm.Pack
namespace Go.Avm.Pack
open Go Go.Avm Go.Proofs
open Go.IntKind (i64 u64)
open Go.Avm.AV (int bool any fz fp sl ow ref fn ifc val agg tup)
open Go.Avm.AObj (cells dead)
open Go.Avm.Oc (ret)
set_option maxRecDepth 4000

end Go.Avm.Pack
namespace Go.Avm.Pack
open Go Go.Avm Go.Proofs
open Go.IntKind (i64 u64)
open Go.Avm.AV (int bool any fz fp sl ow ref fn ifc val agg tup)
open Go.Avm.AObj (cells dead)
open Go.Avm.Oc (ret)
set_option maxRecDepth 4000

def okB (x : Ix) (L : Nat → Nat) (i k : Int) (r : Rng) (v : Int) : Bool := (L r.pack.toNat).testBit v.toNat && !barsB x i k r.pack v && !barsB x r.pack v i k
theorem need_ranged {x : Ix} (hx : formedB x = true) {i n : Nat} (hi : i < x.l.length) (hn : n < (x.l.getD i default).l.length) (r : Rng) (hr : r ∈ ((x.l.getD i default).l.getD n default).needs.l) : rangedB x r = true := by
 have e := formed_rel hx hi hn
 unfold relB at e
 simp only [Bool.and_eq_true] at e
 have := List.all_eq_true.1 e.1.2 r hr
 unfold otherB at this
 simp only [Bool.and_eq_true] at this
 exact this.1
end Go.Avm.Pack
namespace Go.Avm.Pack
open Go Go.Avm Go.Proofs
open Go.IntKind (i64 u64)
open Go.Avm.AV (int bool any fz fp sl ow ref fn ifc val agg tup)
open Go.Avm.AObj (cells dead)
open Go.Avm.Oc (ret)
set_option maxRecDepth 4000

theorem clr_lt {s k : Nat} (h : s.testBit k = true) : clrS s k < s := by
 unfold clrS
 rw [if_pos h]
 have := Nat.ge_two_pow_of_testBit h
 have : 0 < 2 ^ k := Nat.pow_pos (by decide)
 omega
theorem sum8_lt {L M : Nat → Nat} {i : Nat} (hi : i < 8) (h : ∀ j, M j ≤ L j) (hl : M i < L i) : sum8 M < sum8 L := by
 unfold sum8
 have a0 := h 0; have a1 := h 1; have a2 := h 2; have a3 := h 3; have a4 := h 4; have a5 := h 5; have a6 := h 6; have a7 := h 7
 match i, hi with
 | 0, _ => omega
 | 1, _ => omega
 | 2, _ => omega
 | 3, _ => omega
 | 4, _ => omega
 | 5, _ => omega
 | 6, _ => omega
 | 7, _ => omega
def InvT (x : Ix) (L0 L : Nat → Nat) (c : Bool) (q : Prop) : Prop := setsL x L ∧ subL (trimL x) L ∧ (c = false → L = L0 ∧ q) ∧ (c = true → sum8 L < sum8 L0)
theorem InvT.drop {x : Ix} {L0 L : Nat → Nat} {c : Bool} {q q' : Prop} {i k : Nat} (h : InvT x L0 L c q) (hx : formedB x = true) (hi : i < x.l.length) (hb : (L i).testBit k = true) (hn : ((x.l.getD i default).l.getD k default).needs.l.all (needB x L i k) = false) : InvT x L0 (updN L i (clrS (L i) k)) true q' := by
 obtain ⟨h1, h2, h3, h4⟩ := h
 have h8 := (formed_le hx).2
 have e : dropK x i L k = updN L i (clrS (L i) k) := by unfold dropK; rw [hn]; rfl
 have hlt : sum8 (updN L i (clrS (L i) k)) < sum8 L := by
  refine sum8_lt (i := i) (by omega) (fun j => ?_) ?_
  ·rw [← e]; exact drop_le x i L k j
  ·show (if i = i then _ else _) < _
   rw [if_pos rfl]
   exact clr_lt hb
 refine ⟨by rw [← e]; exact sets_drop h1 i k, by rw [← e]; exact drop_max hi (trim_closed hx) h1 h2, fun hc => (by cases hc), fun _ => ?_⟩
 cases c with
 | true => have := h4 rfl; omega
 | false => rw [(h3 rfl).1] at hlt; rw [(h3 rfl).1]; exact hlt
end Go.Avm.Pack
namespace Go.Avm.Pack
open Go Go.Avm Go.Proofs
open Go.IntKind (i64 u64)
open Go.Avm.AV (int bool any fz fp sl ow ref fn ifc val agg tup)
open Go.Avm.AObj (cells dead)
open Go.Avm.Oc (ret)
set_option maxRecDepth 4000

end Go.Avm.Pack
namespace Go.Avm.Pack
open Go Go.Avm Go.Proofs
open Go.IntKind (i64 u64)
open Go.Avm.AV (int bool any fz fp sl ow ref fn ifc val agg tup)
open Go.Avm.AObj (cells dead)
open Go.Avm.Oc (ret)
set_option maxRecDepth 4000

def b5 : KL Rng := ⟨[⟨2, 1, 1⟩], .exa⟩
end Go.Avm.Pack
namespace Go.Avm.Pack
open Go Go.Avm Go.Proofs
open Go.IntKind (i64 u64)
open Go.Avm.AV (int bool any fz fp sl ow ref fn ifc val agg tup)
open Go.Avm.AObj (cells dead)
open Go.Avm.Oc (ret)
set_option maxRecDepth 4000

end Go.Avm.Pack
namespace Go.Avm.Pack
open Go Go.Avm Go.Proofs
open Go.IntKind (i64 u64)
open Go.Avm.AV (int bool any fz fp sl ow ref fn ifc val agg tup)
open Go.Avm.AObj (cells dead)
open Go.Avm.Oc (ret)
set_option maxRecDepth 4000

theorem c_Mul64 (R : Res) (n : Nat) (hn : n < 9) (g : R.σ) : Does Tryd.prog R 103 [.int .u64 1, .int .u64 n] [] g (.ret (.tup 2 (nth [.int .u64 0, .int .u64 n]))) [] g := by
 refine spec_of_wp (nt := 51) (rs := [.tmp 4, .tmp 5]) (k0 := 0) (by kernel_rfl) (by kernel_rfl) (by kernel_rfl) rfl ?_
 refine vcQ [] (lkL [(0, [0, 1]), (1, [0, 1, 6]), (2, [0, 1, 6, 7]), (3, [0, 1, 6, 7, 8]), (4, [0, 1, 6, 7, 8, 9]), (5, [0, 1, 6, 7, 8, 9, 10]), (6, [0, 1, 6, 7, 9, 11]), (7, [0, 1, 6, 7, 9, 11, 12]), (8, [0, 1, 6, 7, 9, 12, 13]), (9, [0, 1, 7, 9, 12, 13]), (10, [0, 1, 4]), (11, [4, 5])]) (fun _ => []) (fun Q => (fun (u1 : Int) => (↑0 : Int) ≤ 32 ∧ (↑0 : Int) ≤ 32 ∧ (↑0 : Int) ≤ 32 ∧ (↑0 : Int) ≤ 32 ∧ (↑0 : Int) ≤ 32 ∧ Q AEx.ret (St.mk [(4, int u64 (IntKind.wrap u64 (IntKind.wrap u64 (IntKind.wrap u64 (Int.fdiv 1 (2 ^ 32) * Int.fdiv (n : Int) (2 ^ 32)) + Int.fdiv u1 (2 ^ 32)) + Int.fdiv (IntKind.wrap u64 (IntKind.wrap u64 (↑(BitVec.toNat (BitVec.ofInt 64 u1 &&& BitVec.ofInt 64 4294967295)) : Int) + IntKind.wrap u64 (IntKind.wrap u64 (↑1 : Int) * Int.fdiv (n : Int) (2 ^ 32)))) (2 ^ 32)))), (5, int u64 (IntKind.wrap u64 (1 * (n : Int))))] [] g)) (IntKind.wrap u64 (IntKind.wrap u64 (Int.fdiv 1 (2 ^ 32) * IntKind.wrap u64 (↑(BitVec.toNat (BitVec.ofInt 64 (n : Int) &&& BitVec.ofInt 64 4294967295)) : Int)) + Int.fdiv (IntKind.wrap u64 (IntKind.wrap u64 (↑1 : Int) * IntKind.wrap u64 (↑(BitVec.toNat (BitVec.ofInt 64 (n : Int) &&& BitVec.ofInt 64 4294967295)) : Int))) (2 ^ 32)))) (fun _ => by kernel_rfl) ⟨(by omega), ⟨(by omega), ⟨(by omega), ⟨(by omega), ⟨(by omega), ?_⟩⟩⟩⟩⟩
 refine (retQ_le (retQ_same' _ _ rfl trivial rfl rfl rfl) (Le.tup (fun j hj => match j, hj with | 0, _ => (Le.of_eq ?_) | 1, _ => (Le.of_eq ?_) )))
 ·show _ = AV.int .u64 0
  exact match n, hn with | 0, _ => (by kernel_rfl) | 1, _ => (by kernel_rfl) | 2, _ => (by kernel_rfl) | 3, _ => (by kernel_rfl) | 4, _ => (by kernel_rfl) | 5, _ => (by kernel_rfl) | 6, _ => (by kernel_rfl) | 7, _ => (by kernel_rfl) | 8, _ => (by kernel_rfl)
 ·show _ = AV.int .u64 (n : Int)
  exact match n, hn with | 0, _ => (by kernel_rfl) | 1, _ => (by kernel_rfl) | 2, _ => (by kernel_rfl) | 3, _ => (by kernel_rfl) | 4, _ => (by kernel_rfl) | 5, _ => (by kernel_rfl) | 6, _ => (by kernel_rfl) | 7, _ => (by kernel_rfl) | 8, _ => (by kernel_rfl)
theorem c_Mul (R : Res) (n : Nat) (hn : n < 9) (hp : List AObj) (g : R.σ) : Does Tryd.prog R 92 [.int .u64 1, .int .u64 n] hp g (.ret (.tup 2 (nth [.int .u64 0, .int .u64 n]))) hp g := by
 refine does_any' (fun R g => ?_) (by exact ⟨trivial, ⟨trivial, trivial⟩⟩) R hp g
 refine spec_of_wp (nt := 30) (rs := [.tmp 4, .tmp 5]) (k0 := 0) (by kernel_rfl) (by kernel_rfl) (by kernel_rfl) rfl ?_
 refine vcQ [] (lkL [(0, [0, 1])]) (fun _ => []) (fun Q => Wp Tryd.prog R 30 0 Rd.top (bodyOf Tryd.prog 92) [1, 0] (contQ Tryd.prog R 30 0 Rd.top (bodyOf Tryd.prog 92) Q [Kont.seq [1, 1]]) (St.mk [(0, int u64 1), (1, int u64 (n : Int))] [] g)) (fun _ => by kernel_rfl) (?_)
 refine wp_condK false (by kernel_rfl) ?_
 show Wp _ _ _ _ _ _ [1, 0, 1] _ _
 refine vcQ [] (lkL []) (fun _ => []) (fun Q => Q AEx.normal (St.mk [(0, int u64 1), (1, int u64 (n : Int))] [] g)) (fun _ => by kernel_rfl) (?_)
 refine vcQ [] (lkL [(3, [8, 9]), (4, [4, 5])]) (lkL [(3, [(2, ROrc.kcall (tup 2 (nth [int u64 0, int u64 (n : Int)])))])]) (fun Q => (true = true ∧ Does Tryd.prog R 103 [int u64 1, int u64 (n : Int)] [] g (ret (tup 2 (nth [int u64 0, int u64 (n : Int)]))) [] g) ∧ Q AEx.ret (St.mk [(4, int u64 0), (5, int u64 (n : Int))] [] g)) (fun _ => by kernel_rfl) ⟨⟨rfl, (Go.Avm.Pack.c_Mul64 _ _ (by omega) _)⟩, ?_⟩
 refine (retQ_le (retQ_same' _ _ rfl trivial rfl rfl rfl) (Le.refl _))
def repC (m : Nat) : Nat → AV := fun c => .int .i64 (if c < m then -1 else 0)
def aNeg : KL Int := ⟨[-1], .exa⟩
theorem wrapU9 {n : Nat} (hn : n < 9) : AV.int .u64 (IntKind.u64.wrap (n : Int)) = .int .u64 n := match n, hn with | 0, _ => (by kernel_rfl) | 1, _ => (by kernel_rfl) | 2, _ => (by kernel_rfl) | 3, _ => (by kernel_rfl) | 4, _ => (by kernel_rfl) | 5, _ => (by kernel_rfl) | 6, _ => (by kernel_rfl) | 7, _ => (by kernel_rfl) | 8, _ => (by kernel_rfl)
theorem wrapI9 {n : Nat} (hn : n < 9) : AV.int .i64 (IntKind.i64.wrap (n : Int)) = .int .i64 n := match n, hn with | 0, _ => (by kernel_rfl) | 1, _ => (by kernel_rfl) | 2, _ => (by kernel_rfl) | 3, _ => (by kernel_rfl) | 4, _ => (by kernel_rfl) | 5, _ => (by kernel_rfl) | 6, _ => (by kernel_rfl) | 7, _ => (by kernel_rfl) | 8, _ => (by kernel_rfl)
theorem Repeat_neg (R : Res) (l : KL Int) (n : Nat) (h0 : 0 < n) (hn : n < 9) (hl : l = aNeg) (g : R.σ) : Does Tryd.prog R 69 [encI l, .int .i64 n] [] g (.ret (.sl 0 0 n n true 1)) [.cells false (n * 1) (repC n)] g := by
 have hll : l.l.length = 1 := by rw [hl]; rfl
 have hroom : maxRoom = 140737488355328 := rfl
 refine spec_of_wp (nt := 48) (rs := [.tmp 4]) (k0 := 0) (by kernel_rfl) (by kernel_rfl) (by kernel_rfl) rfl ?_
 refine vcQ [] (lkL [(0, [0, 1]), (1, [0, 1, 10]), (2, [0, 1]), (3, [0, 5, 6]), (4, [0, 6, 26]), (5, [0, 6]), (6, [0, 7]), (7, [7, 8])]) (lkL [(3, [(2, ROrc.kop (int u64 1)), (4, ROrc.kop (int u64 (n : Int))), (5, ROrc.pcall (tup 2 (nth [int u64 0, int u64 (n : Int)])))]), (6, [(1, ROrc.kop (int i64 (n : Int)))]), (7, [(2, ROrc.own (int i64 (↑1 : Int)) [cells false (n * 1) (repC 1)] g)])]) (fun Q => (fun (u1 : Int) => (fun (u2 : List Row) => (fun (u3 : Bool) => (fun (u4 : AObj) => (false = true → Q (AEx.pan (ifc 9 (AV.str (ByteArray.mk #[99, 97, 110, 110, 111, 116, 32, 98, 101, 32, 110, 101, 103, 97, 116, 105, 118, 101])))) (St.mk [(0, encI l), (1, int i64 u1)] [] g)) ∧ (false = false → OpOk Tryd.prog R (Oper.mk (some 15) (Op.convert 3 75 (Operand.tmp 14)) 75 "slices.go:520" #[Edge.mk 1 Ground.data] none) (evO u2 [(0, encI l), (1, int i64 u1), (10, AV.bool false)] []) [] g (int u64 1) [] g ∧ OpOk Tryd.prog R (Oper.mk (some 17) (Op.convert 3 75 (Operand.tmp 16)) 75 "slices.go:520" #[Edge.mk 3 Ground.data] none) (evO (Row.mk (some 16) none (int i64 u1) false (some []) [] :: Row.mk (some 15) none (int u64 1) true (some []) [] :: u2) [(0, encI l), (1, int i64 u1), (10, AV.bool false)] []) [] g (int u64 u1) [] g ∧ (∀ (hp : List AObj) (g : R.σ), true = true ∧ Does Tryd.prog R 92 [int u64 1, int u64 u1] hp g (ret (tup 2 (nth [int u64 0, int u64 u1]))) hp g) ∧ (u3 = true → Q (AEx.pan (ifc 9 (AV.str (ByteArray.mk #[116, 104, 101, 32, 114, 101, 115, 117, 108, 116, 32, 111, 102, 32, 40, 108, 101, 110, 40, 120, 41, 32, 42, 32, 99, 111, 117, 110, 116, 41, 32, 111, 118, 101, 114, 102, 108, 111, 119, 115])))) (St.mk [(0, encI l), (6, int u64 u1)] [] g)) ∧ (u3 = false → OpOk Tryd.prog R (Oper.mk (some 29) (Op.convert 75 3 (Operand.tmp 28)) 3 "slices.go:525" #[Edge.mk 0 Ground.data] none) (evO [Row.mk (some 28) none (int u64 u1) false (some []) []] [(0, encI l), (6, int u64 u1), (26, AV.bool u3)] []) [] g (int i64 u1) [] g ∧ 0 ≤ u1 ∧ u1 ≤ u1 ∧ u1 ≤ 140737488355328 ∧ n * 8 ≤ maxRoom ∧ OpOk Tryd.prog R (Oper.mk (some 33) (Op.call (Call.mk (Callee.builtin Builtin.copy) #[Operand.tmp 31, Operand.tmp 32] #[43, 43])) 3 "slices.go:526" #[Edge.mk 0 Ground.data, Edge.mk 1 Ground.data] none) (evO [Row.mk (some 32) none (encI l) false (some []) [], Row.mk (some 31) none (sl 0 0 n n true 1) false (some []) []] [(0, encI l), (7, sl 0 0 n n true 1)] []) [cells false (n * 1) fun (j : Nat) => int i64 0] g (int i64 (↑1 : Int)) [u4] g ∧ Wp Tryd.prog R 48 0 Rd.top (bodyOf Tryd.prog 69) [1, 1, 1, 1, 1, 1, 0, 0] (contQ Tryd.prog R 48 0 Rd.top (bodyOf Tryd.prog 69) Q [Kont.blk 0, Kont.seq [1, 1, 1, 1, 1, 1, 1]]) (St.mk [(7, sl 0 0 n n true 1), (8, int i64 (↑1 : Int))] [u4] g)))) (cells false (n * 1) fun (a : Nat) => int i64 (if a < 1 then -1 else 0))) (bif false then true else decide (u1 > 9223372036854775807))) ([Row.mk (some 14) none (int i64 (l.l.length : Int)) false (some []) [], Row.mk (some 13) none (encI l) false (some []) []])) ((n : Int))) (fun _ => by kernel_rfl) ⟨fun h => (nomatch h), fun _ => ⟨?_, ⟨?_, ⟨(fun _ _ => ⟨rfl, (Go.Avm.Pack.c_Mul _ _ (by omega) _ _)⟩), ⟨fun c1 => have c1 : false = true ∨ (n : Int) > 9223372036854775807 := ((cO_t c1).imp (fun h => h) (fun h => (of_decide_eq_true h))); ?_, fun c1 => have c1 : false = false ∧ ¬(n : Int) > 9223372036854775807 := ⟨(cO_f c1).1, (of_decide_eq_false (cO_f c1).2)⟩; ⟨?_, ⟨(by omega), ⟨(by omega), ⟨(by omega), ⟨(by omega), ⟨?_, ?_⟩⟩⟩⟩⟩⟩⟩⟩⟩⟩⟩
 ·exact opOk_le (out := ⟨.int .u64 (IntKind.u64.wrap (l.l.length : Int)), [], [], .pure⟩) (by kernel_rfl) trivial (Le.of_eq (by rw [hll]; kernel_rfl))
 ·exact opOk_le (out := ⟨.int .u64 (IntKind.u64.wrap (n : Int)), [], [], .pure⟩) (by kernel_rfl) trivial (Le.of_eq (wrapU9 hn))
 ·rcases c1 with h | h
  ·cases h
  ·omega
 ·exact opOk_le (out := ⟨.int .i64 (IntKind.i64.wrap (n : Int)), [], [], .pure⟩) (by kernel_rfl) trivial (Le.of_eq (wrapI9 hn))
 ·refine opOk_copy (t := 43) (es := 1) (N := n * 1) (n := l.l.length) (len := n) (ob := 0) (off := 0) (cap := n) (ex := true) (get0 := fun _ => .int .i64 0) (get' := repC 1) (new := fun i _ => .int .i64 (l.l.getD i 0)) (ob1 := []) 1 rfl rfl rfl rfl rfl rfl (by kernel_rfl) rfl trivial (by rw [hll]; omega) (by decide) (by decide) (by omega) (fun c hc => ?_)
  show AV.int .i64 (if c < 1 then -1 else 0) = if 0 ≤ c ∧ c < 0 + 1 * 1 then AV.int .i64 (l.l.getD ((c - 0) / 1) 0) else AV.int .i64 0
  by_cases h : c < 1
  ·rw [if_pos h, if_pos (by omega), show (c - 0) / 1 = 0 by omega, hl]
   rfl
  ·rw [if_neg h, if_neg (by omega)]
 ·refine (wp_loop (by kernel_rfl) (fun (m : Nat) => ⟨[(7, sl 0 0 n n true 1), (8, .int .i64 m)], [.cells false (n * 1) (repC m)], g⟩) (fun (m : Nat) => (0 < m ∧ m ≤ n)) (fun (m : Nat) => (n - m)) 1 (to_fr ⟨(Le.refl _), ⟨(Le.of_eq (by kernel_rfl)), trivial⟩⟩ rfl rfl) ?_ (fun m hi => ?_))
  ·omega
  ·obtain ⟨h1, h2⟩ := hi
   obtain ⟨q, hq⟩ : ∃ q, q = min m (n - m) := ⟨_, rfl⟩
   refine vcQ [] (lkL [(8, [7, 8, 37]), (9, [7, 8])]) (lkL [(9, [(7, ROrc.own (int i64 (q : Int)) [cells false (n * 1) (repC (m + q))] g)])]) (fun Q => (fun (u1 : Int) => (fun (u2 : Int) => (fun (u3 : AObj) => (fun (u4 : AObj) => (fun (u5 : AV) => (decide (u1 < u2) = true → Tables.follows Tryd.prog.toTables Departure.mixedOrders = true ∧ n ≤ n ∧ (0 ≤ u1 ∧ u1 ≤ u2) ∧ m < n ∧ (0 ≤ u1 ∧ u1 ≤ u2) ∧ 0 < n ∧ OpOk Tryd.prog R (Oper.mk (some 45) (Op.call (Call.mk (Callee.builtin Builtin.copy) #[Operand.tmp 41, Operand.tmp 44] #[43, 43])) 3 "slices.go:528" #[Edge.mk 3 Ground.data, Edge.mk 6 Ground.data] none) (evO [Row.mk (some 44) none (sl 0 0 (m - 0) (n - 0) true 1) false (some []) [], Row.mk (some 43) none (int i64 u1) false (some []) [], Row.mk (some 42) none u5 false (some []) [], Row.mk (some 41) none (sl 0 (0 + m * 1) (n - m) (n - m) true 1) false (some []) [], Row.mk (some 40) none (int i64 u1) false (some []) [], Row.mk (some 39) none u5 false (some []) [], Row.mk (some 38) none (int i64 u1) false (some []) []] [(7, u5), (8, int i64 u1), (37, AV.bool (decide (u1 < u2)))] []) [u4] g (int i64 (q : Int)) [u3] g ∧ (-9223372036854775808 ≤ u1 + (q : Int) ∧ u1 + (q : Int) ≤ 9223372036854775807) ∧ Q AEx.normal (St.mk [(7, u5), (8, int i64 (u1 + (q : Int)))] [u3] g)) ∧ (decide (u1 < u2) = false → Q (AEx.exit 0) (St.mk [(7, u5), (8, int i64 u1), (37, AV.bool (decide (u1 < u2)))] [u4] g))) (sl 0 0 n n true 1)) (cells false (n * 1) fun (a : Nat) => int i64 (if a < m then -1 else 0))) (cells false (n * 1) fun (a : Nat) => int i64 (if a < m + q then -1 else 0))) ((n : Int))) ((m : Int))) (fun _ => by kernel_rfl) ⟨fun c1 => have c1 : (m : Int) < (n : Int) := (of_decide_eq_true c1); ⟨(by kernel_rfl), ⟨(by omega), ⟨(by omega), ⟨(by omega), ⟨(by omega), ⟨(by omega), ⟨?_, ⟨(by omega), ?_⟩⟩⟩⟩⟩⟩⟩⟩, fun c1 => have c1 : ¬(m : Int) < (n : Int) := (of_decide_eq_false c1); ?_⟩
   ·refine opOk_copy (t := 43) (es := 1) (N := n * 1) (n := m - 0) (len := n - m) (ob := 0) (off := 0 + m * 1) (cap := n - m) (ex := true) (get0 := repC m) (get' := repC (m + q)) (new := fun i j => repC m (0 + i * 1 + j)) (ob1 := [0 + (m - 0) * 1 ≤ n * 1]) q rfl rfl rfl rfl rfl rfl (by kernel_rfl) rfl ⟨by omega, trivial⟩ (by omega) (by omega) (by decide) (by omega) (fun c hc => ?_)
    show AV.int .i64 (if c < m + q then -1 else 0) = if 0 + m * 1 ≤ c ∧ c < 0 + m * 1 + q * 1 then AV.int .i64 (if 0 + (c - (0 + m * 1)) / 1 * 1 + (c - (0 + m * 1)) % 1 < m then -1 else 0) else AV.int .i64 (if c < m then -1 else 0)
    by_cases h : 0 + m * 1 ≤ c ∧ c < 0 + m * 1 + q * 1
    ·rw [if_pos h, if_pos (by omega), if_pos (by omega)]
    ·rw [if_neg h]
     congr 1
     by_cases h2 : c < m
     ·rw [if_pos h2, if_pos (by omega)]
     ·rw [if_neg h2, if_neg (by omega)]
   ·refine (next_round (m + q) (to_fr ⟨(Le.refl _), ⟨(Le.of_eq (by kernel_rfl)), trivial⟩⟩ rfl rfl) ?_ ?_)
    ·omega
    ·omega
   ·have : m = n := by omega
    subst this
    refine ⟨_, To.refl _, vcQ [] (lkL [(10, [4])]) (fun _ => []) (fun Q => Q AEx.ret (St.mk [(4, sl 0 0 m m true 1)] [cells false (m * 1) fun (a : Nat) => int i64 (if a < m then -1 else 0)] g)) (fun _ => by kernel_rfl) (?_)⟩
    refine (retQ_le (retQ_same' _ _ rfl trivial rfl rfl rfl) (Le.refl _))
theorem c_Repeat (R : Res) (l : KL Int) (n : Nat) (h0 : 0 < n) (hn : n < 9) (hl : l = aNeg) (hp : List AObj) (g : R.σ) : Does Tryd.prog R 69 [encI l, .int .i64 n] hp g (.ret (.sl hp.length 0 n n true 1)) (hp ++ [.cells false (n * 1) (repC n)]) g :=
 does_sub' [] hp.length (fun R g => Repeat_neg R l n h0 hn hl g) rfl rfl rfl trivial trivial ⟨Le.refl _, Le.refl _, trivial⟩ (Le.refl _) (leH_refl _)
end Go.Avm.Pack
namespace Go.Avm.Pack
open Go Go.Avm Go.Proofs
open Go.IntKind (i64 u64)
open Go.Avm.AV (int bool any fz fp sl ow ref fn ifc val agg tup)
open Go.Avm.AObj (cells dead)
open Go.Avm.Oc (ret)
set_option maxRecDepth 4000

theorem arg_rngsK : Arg Tryd.prog 34 (fun l : KL Rng => l.k = .nil ∨ l.k = .opn) encR := by
 intro H en W base v d ps hok hx
 obtain ⟨y, _, hd⟩ := arg_rngs H en W base v d ps hok hx
 obtain ⟨a, l, c, rfl⟩ := Go.WideShapes.okWide_slice Tryd.underlying34 hok
 have hc : Cell.ok Tryd.prog W .any base 34 (.slice a l c) := by
  have h := hok
  simp only [Value.okWide, Tryd.underlying34, Cell.okWide] at h
  exact h
 cases a with
 | none =>
   have h0 : l = 0 ∧ c = 0 := by
    unfold Cell.ok at hc
    rw [Tryd.underlying34] at hc
    cases l with
    | zero => cases c with
      | zero => exact ⟨rfl, rfl⟩
      | succ c => exact hc.elim
    | succ l => exact hc.elim
   obtain ⟨rfl, rfl⟩ := h0
   exact ⟨⟨[], .nil⟩, .inl rfl, fun _ => ⟨rfl, none, 0, rfl, rfl, rfl⟩, fun h => by cases h⟩
 | some a =>
   have hsp : a.spot = none := by
    unfold Cell.ok at hc
    rw [Tryd.underlying34] at hc
    exact hc.2.2.2.1
   obtain ⟨b, off, sp⟩ := a
   have hsp : sp = none := hsp
   subst hsp
   refine ⟨⟨y.l, .opn⟩, .inr rfl, fun h => (by cases h), fun _ => ?_⟩
   cases he : emptyF y.k y.l.length with
   | true =>
     obtain ⟨h0, a, c', h1, _⟩ := hd.1 he
     have hl : l = 0 := by cases h1; rfl
     refine ⟨b, off, c, by show Value.slice _ l c = .slice _ y.l.length c; rw [hl, h0], by show y.l.length ≤ c; omega, fun h => (by rcases h with h | h <;> cases h), fun i j hi _ => ?_⟩
     have hi : i < y.l.length := hi
     omega
   | false =>
     obtain ⟨b', off', cap, h1, h2, _, h4⟩ := hd.2 he
     exact ⟨b', off', cap, h1, h2, fun h => (by rcases h with h | h <;> cases h), h4⟩
def rngsC (l : List Rng) : Nat → AV := fun c => rngC (l.getD (c / 3) default) (c % 3)
theorem below_rngsC {k : Nat} (l : List Rng) (j : Nat) : Below k (rngsC l j) := below_rngC _
theorem LeO.zero {f g : Nat → AV} : LeO (.cells false 0 f) (.cells false 0 g) := ⟨rfl, Nat.le_refl _, fun j hj => absurd hj (Nat.not_lt_zero j)⟩
theorem Le.sl_ow0 {o o' off es es' : Nat} : Le (.sl o off 0 0 true es) (.ow false o' 0 es') := by
 intro FM ρ v hv
 obtain ⟨p, cap', h1, h2, h3, h4, h5⟩ := hv
 have := h4 rfl
 subst this
 exact ⟨fun _ => ⟨_, h2, fun h => by cases h⟩, fun h => absurd rfl h⟩
theorem Le.sl_ow {o n n' es : Nat} (h : n = n') (h0 : 0 < n := by omega) : Le (.sl o 0 n n false es) (.ow false o n' es) := by
 subst h
 intro FM ρ v hv
 obtain ⟨p, cap', h1, h2, h3, h4, h5⟩ := hv
 exact ⟨fun h => by omega, fun _ => ⟨p, cap', h1, h2, h3, by omega⟩⟩
def tdV (o k : Nat) (L : List Rng) : AV := bif Nat.beq (L.length - k) 0 then .fz .may 3 0 (fun _ _ => .any) else .sl o (k * 3) (L.length - k) (L.length - k) false 3
theorem c_CloneR (R : Res) (l : KL Rng) (g : R.σ) (hk : l.k = .nil ∨ l.k = .opn) (h1 : l.l.length < 1000) : Does Tryd.prog R 70 [encR l] [] g (.ret (.ow false 1 l.l.length 3)) [.cells false 0 (fun _ => .any), .cells false (l.l.length * 3) (rngsC l.l)] g := by
 by_cases h0 : l.l.length = 0
 ·obtain ⟨l, k⟩ := l
  have h2 : l = [] := List.eq_nil_of_length_eq_zero h0
  clear h0
  subst h2
  rcases hk with hk | hk
  ·have hk : k = .nil := hk
   subst hk
   refine spec_of_wp (nt := 8) (rs := [.tmp 2]) (k0 := 0) (by kernel_rfl) (by kernel_rfl) (by kernel_rfl) rfl ?_
   refine vcQ [] (lkL [(0, [0]), (1, [0, 4]), (2, [2]), (3, [2])]) (fun _ => []) (fun Q => (true = true → Q AEx.ret (St.mk [(2, fz Fz.nil 0 0 fun _ _ => any)] [] g)) ∧ (true = false → 0 < 0 ∧ 0 < 0 ∧ 0 < 3 ∧ 0 ≤ maxRoom ∧ 0 ≤ maxRoom ∧ 0 ≤ 0 ∧ Q AEx.ret (St.mk [(2, sl 1 0 0 0 false 3)] [cells false 0 fun (j : Nat) => nth [int i64 0, int i64 0, int i64 0] (j % 3), cells false 0 (plainJ 3 0 (fun (i j : Nat) => nth [int i64 0, int i64 0, int i64 0] ((0 + i * 3 + j) % 3)) fun (i : Nat) => rngC (List.getD [] i default))] g))) (fun _ => by kernel_rfl) ⟨fun _ => ?_, fun h => (nomatch h)⟩
   exact retQ_via (.fz .nil 0 0 (fun _ _ => .any)) [] (by kernel_rfl) trivial (To.trans (to_ghost (fun _ => .any)) (To.trans (to_ghost (rngsC [])) (to_le ⟨Le.nil_ow, trivial⟩ ⟨LeO.refl _, LeO.refl _, trivial⟩ rfl)))
  ·have hk : k = .opn := hk
   subst hk
   refine spec_of_wp (nt := 8) (rs := [.tmp 2]) (k0 := 0) (by kernel_rfl) (by kernel_rfl) (by kernel_rfl) rfl ?_
   refine vcQ [] (lkL [(0, [0]), (1, [0, 4]), (2, [2]), (3, [2])]) (lkL [(3, [(2, ROrc.kop (sl 0 0 0 0 true 3))])]) (fun Q => (false = true → Q AEx.ret (St.mk [(2, fz Fz.nil 0 0 fun _ _ => any)] [] g)) ∧ (false = false → OpOk Tryd.prog R (Oper.mk (some 7) (Op.call (Call.mk (Callee.builtin Builtin.append) #[Operand.tmp 5, Operand.tmp 6] #[34, 34])) 34 "slices.go:362" #[Edge.mk 0 Ground.data, Edge.mk 1 Ground.data] none) (evO [Row.mk (some 6) none (fz Fz.opn 3 0 fun (i : Nat) => rngC (List.getD [] i default)) false (some []) [], Row.mk (some 5) none (sl 0 0 0 0 true 3) true (some [0]) []] [(0, fz Fz.opn 3 0 fun (i : Nat) => rngC (List.getD [] i default)), (4, AV.bool false)] []) [cells false 0 fun (j : Nat) => nth [int i64 0, int i64 0, int i64 0] (j % 3)] g (sl 0 0 0 0 true 3) [cells false 0 fun (j : Nat) => nth [int i64 0, int i64 0, int i64 0] (j % 3)] g ∧ Q AEx.ret (St.mk [(2, sl 0 0 0 0 true 3)] [cells false 0 fun (j : Nat) => nth [int i64 0, int i64 0, int i64 0] (j % 3)] g))) (fun _ => by kernel_rfl) ⟨fun h => (nomatch h), fun _ => ⟨?_, ?_⟩⟩
   ·exact opOk_appendZ rfl rfl rfl rfl rfl (by kernel_rfl) rfl (Nat.le_refl _)
   ·exact retQ_via (.sl 0 0 0 0 true 3) [] (by kernel_rfl) trivial (To.trans (to_ghost (rngsC [])) (to_le ⟨Le.sl_ow0, trivial⟩ ⟨LeO.zero, LeO.refl _, trivial⟩ rfl))
 ·have h2 : 0 < l.l.length := by omega
  obtain ⟨l, k⟩ := l
  have h1 : l.length < 1000 := h1
  have h2 : 0 < l.length := h2
  rcases hk with hk | hk
  ·have hk : k = .nil := hk
   subst hk
   refine ⟨fun FM ρ w vs okw hvs => ?_⟩
   exfalso
   have := (hvs.2 0 (Nat.lt_succ_self 0)).1 rfl
   have h3 : l.length = 0 := this.1
   omega
  ·have hk : k = .opn := hk
   subst hk
   have hroom : maxRoom = 140737488355328 := rfl
   refine spec_of_wp (nt := 8) (rs := [.tmp 2]) (k0 := 0) (by kernel_rfl) (by kernel_rfl) (by kernel_rfl) rfl ?_
   refine vcQ [] (lkL [(0, [0]), (1, [0, 4]), (2, [2]), (3, [2])]) (lkL [(3, [(2, ROrc.val (Orc.obj (rngsC l)))])]) (fun Q => (false = true → Q AEx.ret (St.mk [(2, fz Fz.nil 0 0 fun _ _ => any)] [] g)) ∧ (false = false → 0 < 0 + l.length ∧ 0 < l.length ∧ 0 < 3 ∧ (0 + l.length) * 24 ≤ maxRoom ∧ 0 + l.length ≤ maxRoom ∧ 0 ≤ 0 ∧ (∀ (c : Nat), c < (0 + l.length) * 3 → rngsC l c = plainJ 3 0 (fun (i j : Nat) => nth [int i64 0, int i64 0, int i64 0] ((0 + i * 3 + j) % 3)) (fun (i : Nat) => rngC (l.getD i default)) c) ∧ Q AEx.ret (St.mk [(2, sl 1 0 (0 + l.length) (0 + l.length) false 3)] [cells false 0 fun (j : Nat) => nth [int i64 0, int i64 0, int i64 0] (j % 3), cells false ((0 + l.length) * 3) (rngsC l)] g))) (fun _ => by kernel_rfl) ⟨fun h => (nomatch h), fun _ => ⟨(by omega), ⟨(by omega), ⟨(by omega), ⟨(by omega), ⟨(by omega), ⟨(by omega), ⟨?_, ?_⟩⟩⟩⟩⟩⟩⟩⟩
   ·intro c hc
    show _ = rngC (l.getD ((c - 0) / 3) default) ((c - 0) % 3)
    rfl
   ·refine retQ_via (.sl 1 0 (0 + l.length) (0 + l.length) false 3) [] (by kernel_rfl) trivial (to_le ⟨Le.sl_ow (n' := l.length) (by omega), trivial⟩ ⟨LeO.zero, ⟨rfl, show l.length * 3 ≤ (0 + l.length) * 3 by omega, fun j hj => Le.refl _⟩, trivial⟩ rfl)
end Go.Avm.Pack
