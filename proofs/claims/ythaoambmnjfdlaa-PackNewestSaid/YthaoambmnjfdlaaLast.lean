/- PackNewest returns true, and leaves its arguments as they were. No conditions: every input that can be read as data. -/
import Derived.Test.YthaoambmnjfdlaaM4
namespace Go.Avm.Pack
open Go Go.Avm Go.Proofs
open Go.IntKind (i64 u64)
open Go.Avm.AV (int bool any fz fp sl ow ref fn ifc val agg tup)
open Go.Avm.AObj (cells dead)
open Go.Avm.Oc (ret)
set_option maxRecDepth 4000

def nwV (v w : Int) : Bool := v == -1 || (w != -1 && decide (v > w))
def newerF (a b : List Int) : Nat → Nat → Bool
  | 0, _ => false
  | k + 1, i => if a.getD i 0 == b.getD i 0 then newerF a b k (i + 1) else nwV (a.getD i 0) (b.getD i 0)
def newerB (a b : List Int) : Bool := newerF a b a.length 0
theorem c_newer (R : Res) (a b : KL Int) (hp : List AObj) (g : R.σ) (ha : a.l.length < 1000000) (hab : a.l.length ≤ b.l.length) : Does Try.prog R 36 [encI a, encI b] hp g (.ret (.bool (newerB a.l b.l))) hp g := by
  refine does_any' (fun R g => ?_) (by exact ⟨trivial, ⟨trivial, trivial⟩⟩) R hp g
  refine spec_of_wp (nt := 44) (rs := [.tmp 4]) (k0 := 0) (by kernel_rfl) (by kernel_rfl) (by kernel_rfl) rfl ?_
  refine vcQ [] (lkL [(0, [0, 1]), (1, [0, 1, 7, 8])]) (fun _ => []) (fun (Q : AEx → St R.σ → Prop) => Wp Try.prog R 44 0 Rd.top (bodyOf Try.prog 36) [1, 0, 1, 0] (contQ Try.prog R 44 0 Rd.top (bodyOf Try.prog 36) Q [Kont.blk 0, Kont.seq [1, 1]]) (St.mk [(0, encI a), (1, encI b), (7, int i64 (↑(List.length a.l) : Int)), (8, int i64 0)] [] g)) (fun _ => by kernel_rfl) (?_)
  refine (wp_loop (by kernel_rfl) (fun (i : Nat) => ⟨[(0, encI a), (1, encI b), (7, int i64 (↑(List.length a.l) : Int)), (8, .int .i64 (i : Int))], [], g⟩) (fun (i : Nat) => (i ≤ a.l.length ∧ newerB a.l b.l = newerF a.l b.l (a.l.length - i) i)) (fun (i : Nat) => (a.l.length - i)) 0 (to_fr ⟨(Le.refl _), ⟨(Le.refl _), ⟨(Le.refl _), ⟨(Le.of_eq (by kernel_rfl)), trivial⟩⟩⟩⟩ rfl rfl) ?_ (fun i hi => ?_))
  · exact ⟨Nat.zero_le _, rfl⟩
  · obtain ⟨h1, h2⟩ := hi
    have e : i < a.l.length → newerB a.l b.l = if a.l.getD i 0 == b.l.getD i 0 then newerF a.l b.l (a.l.length - (i + 1)) (i + 1) else nwV (a.l.getD i 0) (b.l.getD i 0) := fun h => by
      rw [h2, show a.l.length - i = (a.l.length - (i + 1)) + 1 by omega]; rfl
    refine vcQ [] (lkL [(2, [0, 1, 7, 8, 9]), (3, [0, 1, 5, 7, 8]), (4, [0, 1, 5, 7, 8, 19]), (5, [4]), (6, [0, 1, 7, 8])]) (fun _ => []) (fun (Q : AEx → St R.σ → Prop) => (decide ((↑i : Int) < (↑(List.length a.l) : Int)) = true → Tables.follows Try.prog.toTables Departure.mixedOrders = true ∧ (0 ≤ (↑i : Int) ∧ (↑i : Int) < (↑(List.length a.l) : Int)) ∧ 1 ≤ 1 ∧ (0 ≤ (↑i : Int) ∧ (↑i : Int) < (↑(List.length b.l) : Int)) ∧ 1 ≤ 1 ∧ ((List.getD a.l i 0 != List.getD b.l i 0) = true → Tables.follows Try.prog.toTables Departure.mixedOrders = true ∧ (0 ≤ (↑i : Int) ∧ (↑i : Int) < (↑(List.length a.l) : Int)) ∧ 1 ≤ 1 ∧ ((!List.getD a.l i 0 == -1) = true → 0 ≤ (↑i : Int) ∧ (↑i : Int) < (↑(List.length b.l) : Int)) ∧ ((!List.getD a.l i 0 == -1) = true → 1 ≤ 1) ∧ ((!List.getD a.l i 0 == -1 && List.getD b.l i 0 != -1) = true → 0 ≤ (↑i : Int) ∧ (↑i : Int) < (↑(List.length a.l) : Int)) ∧ ((!List.getD a.l i 0 == -1 && List.getD b.l i 0 != -1) = true → 1 ≤ 1) ∧ ((!List.getD a.l i 0 == -1 && List.getD b.l i 0 != -1) = true → 0 ≤ (↑i : Int) ∧ (↑i : Int) < (↑(List.length b.l) : Int)) ∧ ((!List.getD a.l i 0 == -1 && List.getD b.l i 0 != -1) = true → 1 ≤ 1) ∧ Q AEx.ret (St.mk [(4, AV.bool (bif List.getD a.l i 0 == -1 then true else bif List.getD b.l i 0 != -1 then decide (List.getD a.l i 0 > List.getD b.l i 0) else false))] [] g)) ∧ ((List.getD a.l i 0 != List.getD b.l i 0) = false → (-9223372036854775808 ≤ (↑i : Int) + 1 ∧ (↑i : Int) + 1 ≤ 9223372036854775807) ∧ Q AEx.normal (St.mk [(0, encI a), (1, encI b), (7, int i64 (↑(List.length a.l) : Int)), (8, int i64 ((↑i : Int) + 1))] [] g))) ∧ (decide ((↑i : Int) < (↑(List.length a.l) : Int)) = false → Q (AEx.exit 0) (St.mk [(0, encI a), (1, encI b), (7, int i64 (↑(List.length a.l) : Int)), (8, int i64 (↑i : Int)), (9, AV.bool (decide ((↑i : Int) < (↑(List.length a.l) : Int))))] [] g))) (fun _ => by kernel_rfl) ⟨fun c1 => have c1 : (↑i : Int) < (↑(List.length a.l) : Int) := (of_decide_eq_true c1); ⟨(by kernel_rfl), ⟨(by omega), ⟨(by omega), ⟨(by omega), ⟨(by omega), ⟨fun c2 => have c2 : ¬List.getD a.l i 0 = List.getD b.l i 0 := (bne_iff_ne.mp c2); ⟨(by kernel_rfl), ⟨(by omega), ⟨(by omega), ⟨(by omega), ⟨(by omega), ⟨(by omega), ⟨(by omega), ⟨(by omega), ⟨(by omega), ?_⟩⟩⟩⟩⟩⟩⟩⟩⟩, fun c2 => have c2 : List.getD a.l i 0 = List.getD b.l i 0 := (bne_eq_false_iff_eq.mp c2); ⟨(by omega), ?_⟩⟩⟩⟩⟩⟩⟩, fun c1 => have c1 : ¬(↑i : Int) < (↑(List.length a.l) : Int) := (of_decide_eq_false c1); ?_⟩
    · refine ⟨_, To.refl _, (retQ_le (retQ_same' _ _ rfl trivial rfl rfl rfl) (Le.of_eq ?_))⟩
      show (AV.bool (bif List.getD a.l i 0 == -1 then true else bif List.getD b.l i 0 != -1 then decide (List.getD a.l i 0 > List.getD b.l i 0) else false)) = _
      congr 1
      rw [e (by omega), if_neg (by simpa using c2)]
      unfold nwV
      cases (a.l.getD i 0 == -1) <;> cases (b.l.getD i 0 != -1) <;> rfl
    · refine (next_round (i + 1) (to_fr ⟨(Le.refl _), ⟨(Le.refl _), ⟨(Le.refl _), ⟨(Le.of_eq (by kernel_rfl)), trivial⟩⟩⟩⟩ rfl rfl) ?_ ?_)
      · exact ⟨by omega, by rw [e (by omega), if_pos (by simpa using c2)]⟩
      · omega
    · refine ⟨_, To.refl _, vcQ [] (lkL [(7, [4])]) (fun _ => []) (fun (Q : AEx → St R.σ → Prop) => Q AEx.ret (St.mk [(4, AV.bool false)] [] g)) (fun _ => by kernel_rfl) (?_)⟩
      refine (retQ_le (retQ_same' _ _ rfl trivial rfl rfl rfl) (Le.of_eq ?_))
      show (AV.bool false) = _
      congr 1
      rw [h2, show a.l.length - i = 0 by omega]; rfl
def apartN (a b : List Int) : Nat := cntN a.length (fun i => a.getD i 0 != b.getD i 0)
theorem c_apart (R : Res) (a b : KL Int) (hp : List AObj) (g : R.σ) (ha : a.l.length < 1000000) (hab : a.l.length ≤ b.l.length) : Does Try.prog R 38 [encI a, encI b] hp g (.ret (.int .i64 (apartN a.l b.l : Nat))) hp g := by
  obtain ⟨q, hq⟩ : ∃ q : Nat → Bool, q = fun i => a.l.getD i 0 != b.l.getD i 0 := ⟨_, rfl⟩
  have e : apartN a.l b.l = cntN a.l.length q := by rw [hq]; rfl
  rw [e]
  refine does_any' (fun R g => ?_) (by exact ⟨trivial, ⟨trivial, trivial⟩⟩) R hp g
  refine spec_of_wp (nt := 25) (rs := [.tmp 4]) (k0 := 0) (by kernel_rfl) (by kernel_rfl) (by kernel_rfl) rfl ?_
  refine vcQ [] (lkL [(0, [0, 1]), (1, [0, 1, 5]), (2, [0, 1, 5, 8, 9])]) (fun _ => []) (fun (Q : AEx → St R.σ → Prop) => Wp Try.prog R 25 0 Rd.top (bodyOf Try.prog 38) [1, 1, 0, 1, 0] (contQ Try.prog R 25 0 Rd.top (bodyOf Try.prog 38) Q [Kont.blk 0, Kont.seq [1, 1, 1]]) (St.mk [(0, encI a), (1, encI b), (5, int i64 0), (8, int i64 (↑(List.length a.l) : Int)), (9, int i64 0)] [] g)) (fun _ => by kernel_rfl) (?_)
  refine (wp_loop (by kernel_rfl) (fun (i : Nat) => ⟨[(0, encI a), (1, encI b), (5, .int .i64 (cntN i q : Nat)), (8, int i64 (↑(List.length a.l) : Int)), (9, .int .i64 (i : Int))], [], g⟩) (fun (i : Nat) => (i ≤ a.l.length)) (fun (i : Nat) => (a.l.length - i)) 0 (to_fr ⟨(Le.refl _), ⟨(Le.refl _), ⟨(Le.of_eq (by kernel_rfl)), ⟨(Le.refl _), ⟨(Le.of_eq (by kernel_rfl)), trivial⟩⟩⟩⟩⟩ rfl rfl) ?_ (fun i hi => ?_))
  · exact Nat.zero_le _
  · have hc := cntN_le i q
    have hs := cntN_succ i q
    refine vcQ [] (lkL [(3, [0, 1, 5, 8, 9, 10]), (4, [0, 1, 5, 6, 8, 9]), (5, [0, 1, 5, 8, 9, 20]), (6, [0, 1, 5, 8, 9]), (7, [0, 1, 5, 8, 9])]) (fun _ => []) (fun (Q : AEx → St R.σ → Prop) => (decide ((↑i : Int) < (↑(List.length a.l) : Int)) = true → Tables.follows Try.prog.toTables Departure.mixedOrders = true ∧ (0 ≤ (↑i : Int) ∧ (↑i : Int) < (↑(List.length a.l) : Int)) ∧ 1 ≤ 1 ∧ (0 ≤ (↑i : Int) ∧ (↑i : Int) < (↑(List.length b.l) : Int)) ∧ 1 ≤ 1 ∧ ((List.getD a.l i 0 != List.getD b.l i 0) = true → (-9223372036854775808 ≤ (↑(cntN i q) : Int) + 1 ∧ (↑(cntN i q) : Int) + 1 ≤ 9223372036854775807) ∧ (-9223372036854775808 ≤ (↑i : Int) + 1 ∧ (↑i : Int) + 1 ≤ 9223372036854775807) ∧ Q AEx.normal (St.mk [(0, encI a), (1, encI b), (5, int i64 ((↑(cntN i q) : Int) + 1)), (8, int i64 (↑(List.length a.l) : Int)), (9, int i64 ((↑i : Int) + 1))] [] g)) ∧ ((List.getD a.l i 0 != List.getD b.l i 0) = false → (-9223372036854775808 ≤ (↑i : Int) + 1 ∧ (↑i : Int) + 1 ≤ 9223372036854775807) ∧ Q AEx.normal (St.mk [(0, encI a), (1, encI b), (5, int i64 (↑(cntN i q) : Int)), (8, int i64 (↑(List.length a.l) : Int)), (9, int i64 ((↑i : Int) + 1))] [] g))) ∧ (decide ((↑i : Int) < (↑(List.length a.l) : Int)) = false → Q (AEx.exit 0) (St.mk [(0, encI a), (1, encI b), (5, int i64 (↑(cntN i q) : Int)), (8, int i64 (↑(List.length a.l) : Int)), (9, int i64 (↑i : Int)), (10, AV.bool (decide ((↑i : Int) < (↑(List.length a.l) : Int))))] [] g))) (fun _ => by kernel_rfl) ⟨fun c1 => have c1 : (↑i : Int) < (↑(List.length a.l) : Int) := (of_decide_eq_true c1); ⟨(by kernel_rfl), ⟨(by omega), ⟨(by omega), ⟨(by omega), ⟨(by omega), ⟨fun c2 => have c2 : ¬List.getD a.l i 0 = List.getD b.l i 0 := (bne_iff_ne.mp c2); ⟨(by omega), ⟨(by omega), ?_⟩⟩, fun c2 => have c2 : List.getD a.l i 0 = List.getD b.l i 0 := (bne_eq_false_iff_eq.mp c2); ⟨(by omega), ?_⟩⟩⟩⟩⟩⟩⟩, fun c1 => have c1 : ¬(↑i : Int) < (↑(List.length a.l) : Int) := (of_decide_eq_false c1); ?_⟩
    · have hq1 : q i = true := by rw [hq]; simpa using c2
      rw [hq1] at hs
      refine (next_round (i + 1) (to_fr ⟨(Le.refl _), ⟨(Le.refl _), ⟨(Le.of_eq ?_), ⟨(Le.refl _), ⟨(Le.of_eq (by kernel_rfl)), trivial⟩⟩⟩⟩⟩ rfl rfl) ?_ ?_)
      · show AV.int _ _ = AV.int _ _
        rw [hs]; rfl
      · omega
      · omega
    · have hq1 : q i = false := by rw [hq]; simpa using c2
      rw [hq1] at hs
      refine (next_round (i + 1) (to_fr ⟨(Le.refl _), ⟨(Le.refl _), ⟨(Le.of_eq ?_), ⟨(Le.refl _), ⟨(Le.of_eq (by kernel_rfl)), trivial⟩⟩⟩⟩⟩ rfl rfl) ?_ ?_)
      · show AV.int _ _ = AV.int _ _
        rw [hs]; rfl
      · omega
      · omega
    · have : i = a.l.length := by omega
      subst this
      refine ⟨_, To.refl _, vcQ [] (lkL [(8, [4])]) (fun _ => []) (fun (Q : AEx → St R.σ → Prop) => Q AEx.ret (St.mk [(4, int i64 (↑(cntN (List.length a.l) q) : Int))] [] g)) (fun _ => by kernel_rfl) (?_)⟩
      refine (retQ_le (retQ_same' _ _ rfl trivial rfl rfl rfl) (Le.refl _))
theorem c_EqualI (R : Res) (a b : KL Int) (hp : List AObj) (g : R.σ) (ha : a.l.length < 1000000) : Does Try.prog R 39 [encI a, encI b] hp g (.ret (.bool (decide (a.l = b.l)))) hp g := by
  refine does_any' (fun R g => ?_) (by exact ⟨trivial, ⟨trivial, trivial⟩⟩) R hp g
  refine spec_of_wp (nt := 26) (rs := [.tmp 4]) (k0 := 0) (by kernel_rfl) (by kernel_rfl) (by kernel_rfl) rfl ?_
  refine vcQ [] (lkL [(0, [0, 1]), (1, [0, 1, 10]), (2, [4]), (3, [0, 1, 12, 13])]) (fun _ => []) (fun (Q : AEx → St R.σ → Prop) => (((↑(List.length a.l) : Int) != (↑(List.length b.l) : Int)) = true → Q AEx.ret (St.mk [(4, AV.bool false)] [] g)) ∧ (((↑(List.length a.l) : Int) != (↑(List.length b.l) : Int)) = false → Wp Try.prog R 26 0 Rd.top (bodyOf Try.prog 39) [1, 1, 0, 1, 0] (contQ Try.prog R 26 0 Rd.top (bodyOf Try.prog 39) Q [Kont.blk 0, Kont.seq [1, 1, 1]]) (St.mk [(0, encI a), (1, encI b), (12, int i64 (↑(List.length a.l) : Int)), (13, int i64 0)] [] g))) (fun _ => by kernel_rfl) ⟨fun c1 => have c1 : ¬(↑(List.length a.l) : Int) = (↑(List.length b.l) : Int) := (bne_iff_ne.mp c1); ?_, fun c1 => have c1 : (↑(List.length a.l) : Int) = (↑(List.length b.l) : Int) := (bne_eq_false_iff_eq.mp c1); ?_⟩
  · refine (retQ_le (retQ_same' _ _ rfl trivial rfl rfl rfl) (Le.of_eq ?_))
    show (AV.bool false) = _
    have : a.l ≠ b.l := fun e => c1 (by rw [e])
    simp [this]
  · have hlen : a.l.length = b.l.length := by omega
    refine (wp_loop (by kernel_rfl) (fun (i : Nat) => ⟨[(0, encI a), (1, encI b), (12, int i64 (↑(List.length a.l) : Int)), (13, .int .i64 (i : Int))], [], g⟩) (fun (i : Nat) => (i ≤ a.l.length ∧ ∀ j, j < i → a.l.getD j 0 = b.l.getD j 0)) (fun (i : Nat) => (a.l.length - i)) 0 (to_fr ⟨(Le.refl _), ⟨(Le.refl _), ⟨(Le.refl _), ⟨(Le.of_eq (by kernel_rfl)), trivial⟩⟩⟩⟩ rfl rfl) ?_ (fun i hi => ?_))
    · exact ⟨Nat.zero_le _, fun j hj => absurd hj (by omega)⟩
    · obtain ⟨h1, h2⟩ := hi
      refine vcQ [] (lkL [(4, [0, 1, 12, 13, 14]), (5, [0, 1, 5, 12, 13]), (6, [0, 1, 12, 13, 24]), (7, [4]), (8, [0, 1, 12, 13])]) (fun _ => []) (fun (Q : AEx → St R.σ → Prop) => (decide ((↑i : Int) < (↑(List.length a.l) : Int)) = true → Tables.follows Try.prog.toTables Departure.mixedOrders = true ∧ (0 ≤ (↑i : Int) ∧ (↑i : Int) < (↑(List.length a.l) : Int)) ∧ 1 ≤ 1 ∧ (0 ≤ (↑i : Int) ∧ (↑i : Int) < (↑(List.length b.l) : Int)) ∧ 1 ≤ 1 ∧ ((List.getD a.l i 0 != List.getD b.l i 0) = true → Q AEx.ret (St.mk [(4, AV.bool false)] [] g)) ∧ ((List.getD a.l i 0 != List.getD b.l i 0) = false → (-9223372036854775808 ≤ (↑i : Int) + 1 ∧ (↑i : Int) + 1 ≤ 9223372036854775807) ∧ Q AEx.normal (St.mk [(0, encI a), (1, encI b), (12, int i64 (↑(List.length a.l) : Int)), (13, int i64 ((↑i : Int) + 1))] [] g))) ∧ (decide ((↑i : Int) < (↑(List.length a.l) : Int)) = false → Q (AEx.exit 0) (St.mk [(0, encI a), (1, encI b), (12, int i64 (↑(List.length a.l) : Int)), (13, int i64 (↑i : Int)), (14, AV.bool (decide ((↑i : Int) < (↑(List.length a.l) : Int))))] [] g))) (fun _ => by kernel_rfl) ⟨fun c1 => have c1 : (↑i : Int) < (↑(List.length a.l) : Int) := (of_decide_eq_true c1); ⟨(by kernel_rfl), ⟨(by omega), ⟨(by omega), ⟨(by omega), ⟨(by omega), ⟨fun c2 => have c2 : ¬List.getD a.l i 0 = List.getD b.l i 0 := (bne_iff_ne.mp c2); ?_, fun c2 => have c2 : List.getD a.l i 0 = List.getD b.l i 0 := (bne_eq_false_iff_eq.mp c2); ⟨(by omega), ?_⟩⟩⟩⟩⟩⟩⟩, fun c1 => have c1 : ¬(↑i : Int) < (↑(List.length a.l) : Int) := (of_decide_eq_false c1); ?_⟩
      · refine ⟨_, To.refl _, (retQ_le (retQ_same' _ _ rfl trivial rfl rfl rfl) (Le.of_eq ?_))⟩
        show (AV.bool false) = _
        have : a.l ≠ b.l := ne_getD (j := i) (d := 0) (by simpa using c2)
        simp [this]
      · refine (next_round (i + 1) (to_fr ⟨(Le.refl _), ⟨(Le.refl _), ⟨(Le.refl _), ⟨(Le.of_eq (by kernel_rfl)), trivial⟩⟩⟩⟩ rfl rfl) ?_ ?_)
        · refine ⟨by omega, fun j hj => ?_⟩
          rcases Nat.lt_or_ge j i with h | h
          · exact h2 j h
          · have : j = i := by omega
            subst this; simpa using c2
        · omega
      · refine ⟨_, To.refl _, vcQ [] (lkL [(9, [4])]) (fun _ => []) (fun (Q : AEx → St R.σ → Prop) => Q AEx.ret (St.mk [(4, AV.bool true)] [] g)) (fun _ => by kernel_rfl) (?_)⟩
        refine (retQ_le (retQ_same' _ _ rfl trivial rfl rfl rfl) (Le.of_eq ?_))
        show (AV.bool true) = _
        have : a.l = b.l := ext_getD 0 hlen (fun j hj => h2 j (by omega))
        simp [this]
theorem Le.may_auto {s n : Nat} {f : Nat → Nat → AV} (h : 0 < n) : Le (.fz .may s n f) (.fz .auto s n f) := by
  intro FM ρ v hv
  have hb : Nat.beq n 0 = false := by
    cases n with
    | zero => exact absurd h (by omega)
    | succ n => rfl
  refine ⟨fun he => ?_, fun _ => ?_⟩
  · have he : Nat.beq n 0 = true := he
    rw [hb] at he; cases he
  · obtain ⟨b, off, cap, h1, h2, h3, h4⟩ := hv.2 hb
    exact ⟨b, off, cap, h1, h2, fun hh => (by rcases hh with hh | hh <;> cases hh), h4⟩
theorem CloneI0 (R : Res) (l : List Int) (g : R.σ) (h0 : 0 < l.length) (h1 : l.length < 10000) : Does Try.prog R 37 [encI ⟨l, .auto⟩] [] g (.ret (.fz .opn 1 (0 + l.length) (fun i j => intsC l (0 + i * 1 + j)))) [] g := by
  refine spec_of_wp (nt := 8) (rs := [.tmp 2]) (k0 := 0) (by kernel_rfl) (by kernel_rfl) (by kernel_rfl) rfl ?_
  refine vcQ [] (lkL [(0, [0]), (1, [0, 4]), (2, [2]), (3, [2])]) (lkL [(3, [(2, ROrc.val (Orc.obj (intsC l)))])]) (fun (Q : AEx → St R.σ → Prop) => (Nat.beq (List.length l) 0 = true → Q AEx.ret (St.mk [(2, fz Fz.nil 0 0 fun (x x_1 : Nat) => any)] [] g)) ∧ (Nat.beq (List.length l) 0 = false → 0 < 0 + List.length l ∧ 0 < List.length l ∧ 0 < 1 ∧ (0 + List.length l) * 8 ≤ maxRoom ∧ 0 + List.length l ≤ maxRoom ∧ 0 ≤ 0 ∧ (∀ (c : Nat), c < (0 + List.length l) * 1 → int i64 (List.getD l c 0) = int i64 (List.getD l ((c - 0) / 1) 0)) ∧ Q AEx.ret (St.mk [(2, sl 1 0 (0 + List.length l) (0 + List.length l) false 1)] [cells false 0 fun (j : Nat) => int i64 0, cells false ((0 + List.length l) * 1) fun (a : Nat) => int i64 (List.getD l a 0)] g))) (fun _ => by kernel_rfl) ⟨fun c1 => ?_, fun c1 => ⟨(by omega), ⟨(by omega), ⟨(by omega), ⟨?_, ⟨?_, ⟨(by omega), ⟨?_, ?_⟩⟩⟩⟩⟩⟩⟩⟩
  · exfalso
    have := Nat.eq_of_beq_eq_true c1
    omega
  · exact Nat.le_trans (show (0 + l.length) * 8 ≤ 320000 by omega) (by decide)
  · exact Nat.le_trans (show 0 + l.length ≤ 10000 by omega) (by decide)
  · intro c hc
    show AV.int .i64 (l.getD c 0) = AV.int .i64 (l.getD ((c - 0) / 1) 0)
    rw [show (c - 0) / 1 = c by omega]
  · refine (retQ_le (retQ_frz 0 [1] _ _ rfl trivial (by omega) (by exact ⟨(fun _ _ => trivial), ⟨⟨(by simp at * <;> omega), (by simp at * <;> omega)⟩, trivial⟩⟩) (by exact trivial) (by exact trivial) (by kernel_rfl) rfl rfl) (Le.of_eq (by kernel_rfl)))
theorem c_CloneI (R : Res) (l : KL Int) (g : R.σ) (hp : List AObj) (h0 : 0 < l.l.length) (h1 : l.l.length < 10000) (hk : l.k = .auto) : Does Try.prog R 37 [encI l] hp g (.ret (encI ⟨l.l, .auto⟩)) hp g := by
  obtain ⟨l, k⟩ := l
  subst hk
  refine does_any' (fun R g => ?_) (by exact ⟨trivial, trivial⟩) R hp g
  have h := CloneI0 R l g h0 h1
  rw [Nat.zero_add] at h
  refine does_conv h ⟨Le.refl _, trivial⟩ (fun FM ρ v hv => encI_auto h0 FM ρ v (leK_ok (k := .opn) (k' := .opn) rfl (fun i j hi hj => ?_) FM ρ v hv))
  have : j = 0 := by omega
  subst this
  show AV.int .i64 (l.getD (0 + i * 1 + 0) 0) = AV.int .i64 (l.getD i 0)
  rw [show 0 + i * 1 + 0 = i by omega]
def encB (x : KL Int) : AV := .fz x.k 1 x.l.length (fun i _ => .int .u8 (x.l.getD i 0))
def drawnV (x : Ix) (by' : List Int) (from' i : Nat) : Int :=
  if 0 < by'.length then (IntKind.i64.wrap (by'.getD ((from' + i) % by'.length) 0)).tmod (((x.l.getD i default).l.length : Int) + 1) - 1 else -1
def drawnL (x : Ix) (by' : List Int) (from' : Nat) : List Int := (List.range x.l.length).map (drawnV x by' from')
theorem drawnL_len (x : Ix) (by' : List Int) (from' : Nat) : (drawnL x by' from').length = x.l.length := by simp [drawnL]
theorem drawnL_getD {x : Ix} {by' : List Int} {from' i : Nat} (h : i < x.l.length) : (drawnL x by' from').getD i 0 = drawnV x by' from' i := by simp [drawnL, List.getD, h]
theorem drawn_plan {x : Ix} {by' : List Int} {from' : Nat} (hb : ∀ v ∈ by', 0 ≤ v ∧ v ≤ 255) : isPlan x (drawnL x by' from') := by
  refine ⟨drawnL_len _ _ _, fun i hi => ?_⟩
  rw [drawnL_getD hi]
  unfold drawnV
  split
  · rename_i h
    obtain ⟨k, hk⟩ : ∃ k, k = (from' + i) % by'.length := ⟨_, rfl⟩
    rw [← hk]
    have hv : 0 ≤ by'.getD k 0 ∧ by'.getD k 0 ≤ 255 := by
      by_cases hk2 : k < by'.length
      · exact hb _ (getD_mem _ _ hk2)
      · rw [show by'.getD k 0 = 0 by simp [List.getD, List.getElem?_eq_none (by omega : by'.length ≤ k)]]
        omega
    have hw : IntKind.i64.wrap (by'.getD k 0) = by'.getD k 0 := by rw [IntKind.wrap_i64]; omega
    rw [hw]
    have h1 := Int.tmod_nonneg (((x.l.getD i default).l.length : Int) + 1) hv.1
    have h2 := Int.tmod_lt_of_pos (by'.getD k 0) (show (0 : Int) < ((x.l.getD i default).l.length : Int) + 1 by omega)
    omega
  · omega
def drwC (q : Nat → Int) (i : Nat) : Nat → AV := fun j => .int .i64 (if j < i then q j else 0)
theorem drawn_all (R : Res) (x : Ix) (b : KL Int) (from' : Nat) (g : R.σ) (hs : small x) (h1 : 1 ≤ x.l.length) (hf : from' < 1000000) (hb : ∀ v ∈ b.l, 0 ≤ v ∧ v ≤ 255) : Does Try.prog R 34 [encIx x, encB b, .int .i64 from'] [] g (.ret (.fz .exa 1 x.l.length (fun i j => drwC (drawnV x b.l from') x.l.length (0 + i * 1 + j)))) [] g := by
  have w1 := hs.1
  have hroom : maxRoom = 140737488355328 := rfl
  have hpl := drawn_plan (x := x) (from' := from') hb
  obtain ⟨q, hq⟩ : ∃ q, q = drawnV x b.l from' := ⟨_, rfl⟩
  have hqb : ∀ i, i < x.l.length → -1 ≤ q i ∧ q i < ((x.l.getD i default).l.length : Int) := fun i hi => by
    have := hpl.2 i hi
    rw [drawnL_getD hi, ← hq] at this
    exact this
  rw [← hq]
  refine spec_of_wp (nt := 48) (rs := [.tmp 6]) (k0 := 0) (by kernel_rfl) (by kernel_rfl) (by kernel_rfl) rfl ?_
  refine vcQ [] (lkL [(0, [1, 2, 3]), (1, [1, 2, 3, 7]), (2, [1, 2, 7, 15, 16, 17])]) (fun _ => []) (fun (Q : AEx → St R.σ → Prop) => 1 ≤ 1 ∧ 0 ≤ (↑(List.length x.l) : Int) ∧ (↑(List.length x.l) : Int) ≤ (↑(List.length x.l) : Int) ∧ (↑(List.length x.l) : Int) ≤ 140737488355328 ∧ List.length x.l * 8 ≤ maxRoom ∧ 1 ≤ 1 ∧ Wp Try.prog R 48 0 Rd.top (bodyOf Try.prog 34) [1, 1, 0, 1, 0] (contQ Try.prog R 48 0 Rd.top (bodyOf Try.prog 34) Q [Kont.blk 0, Kont.seq [1, 1, 1]]) (St.mk [(1, fz b.2 1 (List.length b.l) fun (i x : Nat) => int IntKind.u8 (List.getD b.l i 0)), (2, int i64 (↑from' : Int)), (7, sl 1 0 (List.length x.l) (List.length x.l) true 1), (15, encPacks x), (16, int i64 (↑(List.length x.l) : Int)), (17, int i64 0)] [cells false 1 (nth [encPacks x]), cells false (List.length x.l * 1) fun (j : Nat) => int i64 0] g)) (fun _ => by kernel_rfl) ⟨(by omega), ⟨(by omega), ⟨(by omega), ⟨(by omega), ⟨(by omega), ⟨(by omega), ?_⟩⟩⟩⟩⟩⟩
  refine (wp_loop (by kernel_rfl) (fun (i : Nat) => ⟨[(1, fz b.2 1 (List.length b.l) fun (i x : Nat) => int IntKind.u8 (List.getD b.l i 0)), (2, int i64 (↑from' : Int)), (7, sl 1 0 (List.length x.l) (List.length x.l) true 1), (15, encPacks x), (16, int i64 (↑(List.length x.l) : Int)), (17, .int .i64 (i : Int))], [.cells false 1 (nth [encPacks x]), .cells false (x.l.length * 1) (drwC q i)], g⟩) (fun (i : Nat) => (i ≤ x.l.length)) (fun (i : Nat) => (x.l.length - i)) 0 (to_le ⟨(Le.refl _), ⟨(Le.refl _), ⟨(Le.refl _), ⟨(Le.refl _), ⟨(Le.refl _), ⟨(Le.of_eq (by kernel_rfl)), trivial⟩⟩⟩⟩⟩⟩ ⟨LeO.rflc, ⟨LeO.rflc, trivial⟩⟩ rfl) ?_ (fun i hi => ?_))
  · exact Nat.zero_le _
  · have w2 := hs.2 i
    by_cases h0 : 0 < b.l.length
    · have hqi : q i = (IntKind.i64.wrap (b.l.getD ((from' + i) % b.l.length) 0)).tmod (((x.l.getD i default).l.length : Int) + 1) - 1 := by rw [hq]; unfold drawnV; rw [if_pos h0]
      have m1 := Int.tmod_nonneg (b.l.length : Int) (show (0 : Int) ≤ (from' : Int) + (i : Int) by omega)
      have m2 := Int.tmod_lt_of_pos ((from' : Int) + (i : Int)) (show (0 : Int) < (b.l.length : Int) by omega)
      have hgt : decide ((b.l.length : Int) > 0) = true := decide_eq_true (by omega)
      refine vcQ [] (lkL [(3, [1, 2, 7, 15, 16, 17, 18]), (4, [1, 2, 7, 8, 9, 15, 16, 17]), (5, [1, 2, 7, 8, 9, 15, 16, 17]), (6, [1, 2, 7, 8, 9, 15, 16, 17, 27]), (7, [1, 2, 7, 15, 16, 17]), (8, [1, 2, 7, 15, 16, 17])]) (lkL [(5, [(3, ROrc.val (Orc.obj fun (j : Nat) => if j = i then int i64 (-1) else drwC q i j))]), (7, [(18, ROrc.val (Orc.obj (drwC q (i + 1))))])]) (fun (Q : AEx → St R.σ → Prop) => (decide ((↑i : Int) < (↑(List.length x.l) : Int)) = true → (0 ≤ (↑i : Int) ∧ (↑i : Int) < (↑(List.length x.l) : Int)) ∧ 1 ≤ 1 ∧ (0 ≤ (↑i : Int) ∧ (↑i : Int) < (↑(List.length x.l) : Int)) ∧ i + 1 ≤ List.length x.l * 1 ∧ (∀ (c : Nat), c < List.length x.l * 1 → (if c = i then int i64 (-1) else drwC q i c) = over (fun (a : Nat) => int i64 (if a < i then q a else 0)) i 1 (fun (x : Nat) => int i64 (-1)) c) ∧ (decide ((↑(List.length b.l) : Int) > 0) = true → (-9223372036854775808 ≤ (↑from' : Int) + (↑i : Int) ∧ (↑from' : Int) + (↑i : Int) ≤ 9223372036854775807) ∧ (↑(List.length b.l) : Int) ≠ 0 ∧ (0 ≤ Int.tmod ((↑from' : Int) + (↑i : Int)) (↑(List.length b.l) : Int) ∧ Int.tmod ((↑from' : Int) + (↑i : Int)) (↑(List.length b.l) : Int) < (↑(List.length b.l) : Int)) ∧ 1 ≤ 1 ∧ (-9223372036854775808 ≤ (↑(List.length (List.getD x.l i default).l) : Int) + 1 ∧ (↑(List.length (List.getD x.l i default).l) : Int) + 1 ≤ 9223372036854775807) ∧ (↑(List.length (List.getD x.l i default).l) : Int) + 1 ≠ 0 ∧ (-9223372036854775808 ≤ Int.tmod (IntKind.wrap i64 (List.getD b.l ((from' + i) % List.length b.l) 0)) ((↑(List.length (List.getD x.l i default).l) : Int) + 1) - 1 ∧ Int.tmod (IntKind.wrap i64 (List.getD b.l ((from' + i) % List.length b.l) 0)) ((↑(List.length (List.getD x.l i default).l) : Int) + 1) - 1 ≤ 9223372036854775807) ∧ (0 ≤ (↑i : Int) ∧ (↑i : Int) < (↑(List.length x.l) : Int)) ∧ i + 1 ≤ List.length x.l * 1 ∧ (∀ (c : Nat), c < List.length x.l * 1 → int i64 (if c < i + 1 then q c else 0) = over (fun (j : Nat) => if j = i then int i64 (-1) else drwC q i j) i 1 (fun (x_3 : Nat) => int i64 (Int.tmod (IntKind.wrap i64 (List.getD b.l ((from' + i) % List.length b.l) 0)) ((↑(List.length (List.getD x.l i default).l) : Int) + 1) - 1)) c) ∧ (-9223372036854775808 ≤ (↑i : Int) + 1 ∧ (↑i : Int) + 1 ≤ 9223372036854775807) ∧ Q AEx.normal (St.mk [(1, fz b.2 1 (List.length b.l) fun (i x : Nat) => int IntKind.u8 (List.getD b.l i 0)), (2, int i64 (↑from' : Int)), (7, sl 1 0 (List.length x.l) (List.length x.l) true 1), (15, encPacks x), (16, int i64 (↑(List.length x.l) : Int)), (17, int i64 ((↑i : Int) + 1))] [cells false 1 (nth [encPacks x]), cells false (List.length x.l * 1) fun (a : Nat) => int i64 (if a < i + 1 then q a else 0)] g)) ∧ (decide ((↑(List.length b.l) : Int) > 0) = false → (-9223372036854775808 ≤ (↑i : Int) + 1 ∧ (↑i : Int) + 1 ≤ 9223372036854775807) ∧ Q AEx.normal (St.mk [(1, fz b.2 1 (List.length b.l) fun (i x : Nat) => int IntKind.u8 (List.getD b.l i 0)), (2, int i64 (↑from' : Int)), (7, sl 1 0 (List.length x.l) (List.length x.l) true 1), (15, encPacks x), (16, int i64 (↑(List.length x.l) : Int)), (17, int i64 ((↑i : Int) + 1))] [cells false 1 (nth [encPacks x]), cells false (List.length x.l * 1) fun (j : Nat) => if j = i then int i64 (-1) else drwC q i j] g))) ∧ (decide ((↑i : Int) < (↑(List.length x.l) : Int)) = false → Q (AEx.exit 0) (St.mk [(1, fz b.2 1 (List.length b.l) fun (i x : Nat) => int IntKind.u8 (List.getD b.l i 0)), (2, int i64 (↑from' : Int)), (7, sl 1 0 (List.length x.l) (List.length x.l) true 1), (15, encPacks x), (16, int i64 (↑(List.length x.l) : Int)), (17, int i64 (↑i : Int)), (18, AV.bool (decide ((↑i : Int) < (↑(List.length x.l) : Int))))] [cells false 1 (nth [encPacks x]), cells false (List.length x.l * 1) fun (a : Nat) => int i64 (if a < i then q a else 0)] g))) (fun _ => by kernel_rfl) ⟨fun c1 => have c1 : (↑i : Int) < (↑(List.length x.l) : Int) := (of_decide_eq_true c1); ⟨(by omega), ⟨(by omega), ⟨(by omega), ⟨(by omega), ⟨?_, ⟨fun _ => ⟨(by omega), ⟨(by omega), ⟨(by omega), ⟨(by omega), ⟨(by omega), ⟨(by omega), ⟨?_, ⟨(by omega), ⟨(by omega), ⟨?_, ⟨(by omega), ?_⟩⟩⟩⟩⟩⟩⟩⟩⟩⟩⟩, fun hcc => (nomatch (hgt.symm.trans hcc))⟩⟩⟩⟩⟩⟩, fun c1 => have c1 : ¬(↑i : Int) < (↑(List.length x.l) : Int) := (of_decide_eq_false c1); ?_⟩
      · intro c hc
        rw [over_eq]
        by_cases h : c = i
        · rw [if_pos h, if_pos (by omega)]
        · rw [if_neg h, if_neg (by omega)]; rfl
      · have := hqb i (by omega)
        rw [hqi] at this
        omega
      · intro c hc
        rw [over_eq, ← hqi]
        by_cases h : c = i
        · rw [if_pos (show i ≤ c ∧ c < i + 1 by omega), if_pos (by omega), h]
        · rw [if_neg (show ¬ (i ≤ c ∧ c < i + 1) by omega)]
          show _ = if c = i then _ else drwC q i c
          rw [if_neg h]
          show AV.int .i64 _ = AV.int .i64 (if c < i then q c else 0)
          by_cases h2 : c < i
          · rw [if_pos h2, if_pos (by omega)]
          · rw [if_neg h2, if_neg (by omega)]
      · refine (next_round (i + 1) (to_fr ⟨(Le.refl _), ⟨(Le.refl _), ⟨(Le.refl _), ⟨(Le.refl _), ⟨(Le.refl _), ⟨(Le.of_eq (by kernel_rfl)), trivial⟩⟩⟩⟩⟩⟩ rfl rfl) ?_ ?_)
        · omega
        · omega
      · have e : i = x.l.length := by omega
        subst e
        refine ⟨_, To.refl _, vcQ [] (lkL [(9, [6])]) (fun _ => []) (fun (Q : AEx → St R.σ → Prop) => Q AEx.ret (St.mk [(6, sl 1 0 (List.length x.l) (List.length x.l) true 1)] [cells false 1 (nth [encPacks x]), cells false (List.length x.l * 1) fun (a : Nat) => int i64 (if a < List.length x.l then q a else 0)] g)) (fun _ => by kernel_rfl) (?_)⟩
        refine (retQ_le (retQ_frz 0 [1] _ _ rfl trivial (by omega) (by exact ⟨(fun _ _ => trivial), ⟨⟨(by simp at * <;> omega), (by omega)⟩, trivial⟩⟩) (by exact trivial) (by exact trivial) (by kernel_rfl) rfl rfl) (Le.of_eq ?_))
        show AV.fz (bif true && Nat.beq x.l.length x.l.length then .exa else .opn) _ _ _ = _
        rw [Nat.beq_refl]
        rfl
    · have hqi : q i = -1 := by rw [hq]; unfold drawnV; rw [if_neg h0]
      have hgt : decide ((b.l.length : Int) > 0) = false := decide_eq_false (by omega)
      refine vcQ [] (lkL [(3, [1, 2, 7, 15, 16, 17, 18]), (4, [1, 2, 7, 8, 9, 15, 16, 17]), (5, [1, 2, 7, 8, 9, 15, 16, 17]), (6, [1, 2, 7, 8, 9, 15, 16, 17, 27]), (7, [1, 2, 7, 15, 16, 17]), (8, [1, 2, 7, 15, 16, 17])]) (lkL [(5, [(3, ROrc.val (Orc.obj (drwC q (i + 1))))])]) (fun (Q : AEx → St R.σ → Prop) => (decide ((↑i : Int) < (↑(List.length x.l) : Int)) = true → (0 ≤ (↑i : Int) ∧ (↑i : Int) < (↑(List.length x.l) : Int)) ∧ 1 ≤ 1 ∧ (0 ≤ (↑i : Int) ∧ (↑i : Int) < (↑(List.length x.l) : Int)) ∧ i + 1 ≤ List.length x.l * 1 ∧ (∀ (c : Nat), c < List.length x.l * 1 → int i64 (if c < i + 1 then q c else 0) = over (fun (a : Nat) => int i64 (if a < i then q a else 0)) i 1 (fun (x : Nat) => int i64 (-1)) c) ∧ (decide ((↑(List.length b.l) : Int) > 0) = true → (-9223372036854775808 ≤ (↑from' : Int) + (↑i : Int) ∧ (↑from' : Int) + (↑i : Int) ≤ 9223372036854775807) ∧ (↑(List.length b.l) : Int) ≠ 0 ∧ (0 ≤ Int.tmod ((↑from' : Int) + (↑i : Int)) (↑(List.length b.l) : Int) ∧ Int.tmod ((↑from' : Int) + (↑i : Int)) (↑(List.length b.l) : Int) < (↑(List.length b.l) : Int)) ∧ 1 ≤ 1 ∧ (-9223372036854775808 ≤ (↑(List.length (List.getD x.l i default).l) : Int) + 1 ∧ (↑(List.length (List.getD x.l i default).l) : Int) + 1 ≤ 9223372036854775807) ∧ (↑(List.length (List.getD x.l i default).l) : Int) + 1 ≠ 0 ∧ (-9223372036854775808 ≤ Int.tmod (IntKind.wrap i64 (List.getD b.l ((from' + i) % List.length b.l) 0)) ((↑(List.length (List.getD x.l i default).l) : Int) + 1) - 1 ∧ Int.tmod (IntKind.wrap i64 (List.getD b.l ((from' + i) % List.length b.l) 0)) ((↑(List.length (List.getD x.l i default).l) : Int) + 1) - 1 ≤ 9223372036854775807) ∧ (0 ≤ (↑i : Int) ∧ (↑i : Int) < (↑(List.length x.l) : Int)) ∧ i + 1 ≤ List.length x.l * 1 ∧ (-9223372036854775808 ≤ (↑i : Int) + 1 ∧ (↑i : Int) + 1 ≤ 9223372036854775807) ∧ Q AEx.normal (St.mk [(1, fz b.2 1 (List.length b.l) fun (i x : Nat) => int IntKind.u8 (List.getD b.l i 0)), (2, int i64 (↑from' : Int)), (7, sl 1 0 (List.length x.l) (List.length x.l) true 1), (15, encPacks x), (16, int i64 (↑(List.length x.l) : Int)), (17, int i64 ((↑i : Int) + 1))] [cells false 1 (nth [encPacks x]), cells false (List.length x.l * 1) (over (fun (a : Nat) => int i64 (if a < i + 1 then q a else 0)) i 1 fun (x_3 : Nat) => int i64 (Int.tmod (IntKind.wrap i64 (List.getD b.l ((from' + i) % List.length b.l) 0)) ((↑(List.length (List.getD x.l i default).l) : Int) + 1) - 1))] g)) ∧ (decide ((↑(List.length b.l) : Int) > 0) = false → (-9223372036854775808 ≤ (↑i : Int) + 1 ∧ (↑i : Int) + 1 ≤ 9223372036854775807) ∧ Q AEx.normal (St.mk [(1, fz b.2 1 (List.length b.l) fun (i x : Nat) => int IntKind.u8 (List.getD b.l i 0)), (2, int i64 (↑from' : Int)), (7, sl 1 0 (List.length x.l) (List.length x.l) true 1), (15, encPacks x), (16, int i64 (↑(List.length x.l) : Int)), (17, int i64 ((↑i : Int) + 1))] [cells false 1 (nth [encPacks x]), cells false (List.length x.l * 1) fun (a : Nat) => int i64 (if a < i + 1 then q a else 0)] g))) ∧ (decide ((↑i : Int) < (↑(List.length x.l) : Int)) = false → Q (AEx.exit 0) (St.mk [(1, fz b.2 1 (List.length b.l) fun (i x : Nat) => int IntKind.u8 (List.getD b.l i 0)), (2, int i64 (↑from' : Int)), (7, sl 1 0 (List.length x.l) (List.length x.l) true 1), (15, encPacks x), (16, int i64 (↑(List.length x.l) : Int)), (17, int i64 (↑i : Int)), (18, AV.bool (decide ((↑i : Int) < (↑(List.length x.l) : Int))))] [cells false 1 (nth [encPacks x]), cells false (List.length x.l * 1) fun (a : Nat) => int i64 (if a < i then q a else 0)] g))) (fun _ => by kernel_rfl) ⟨fun c1 => have c1 : (↑i : Int) < (↑(List.length x.l) : Int) := (of_decide_eq_true c1); ⟨(by omega), ⟨(by omega), ⟨(by omega), ⟨(by omega), ⟨?_, ⟨fun hcc => (nomatch (hgt.symm.trans hcc)), fun _ => ⟨(by omega), ?_⟩⟩⟩⟩⟩⟩⟩, fun c1 => have c1 : ¬(↑i : Int) < (↑(List.length x.l) : Int) := (of_decide_eq_false c1); ?_⟩
      · intro c hc
        rw [over_eq]
        by_cases h : c = i
        · rw [if_pos (show i ≤ c ∧ c < i + 1 by omega), if_pos (by omega), h, hqi]
        · rw [if_neg (show ¬ (i ≤ c ∧ c < i + 1) by omega)]
          show AV.int .i64 _ = AV.int .i64 (if c < i then q c else 0)
          by_cases h2 : c < i
          · rw [if_pos h2, if_pos (by omega)]
          · rw [if_neg h2, if_neg (by omega)]
      · refine (next_round (i + 1) (to_fr ⟨(Le.refl _), ⟨(Le.refl _), ⟨(Le.refl _), ⟨(Le.refl _), ⟨(Le.refl _), ⟨(Le.of_eq (by kernel_rfl)), trivial⟩⟩⟩⟩⟩⟩ rfl rfl) ?_ ?_)
        · omega
        · omega
      · have e : i = x.l.length := by omega
        subst e
        refine ⟨_, To.refl _, vcQ [] (lkL [(9, [6])]) (fun _ => []) (fun (Q : AEx → St R.σ → Prop) => Q AEx.ret (St.mk [(6, sl 1 0 (List.length x.l) (List.length x.l) true 1)] [cells false 1 (nth [encPacks x]), cells false (List.length x.l * 1) fun (a : Nat) => int i64 (if a < List.length x.l then q a else 0)] g)) (fun _ => by kernel_rfl) (?_)⟩
        refine (retQ_le (retQ_frz 0 [1] _ _ rfl trivial (by omega) (by exact ⟨(fun _ _ => trivial), ⟨⟨(by simp at * <;> omega), (by omega)⟩, trivial⟩⟩) (by exact trivial) (by exact trivial) (by kernel_rfl) rfl rfl) (Le.of_eq ?_))
        show AV.fz (bif true && Nat.beq x.l.length x.l.length then .exa else .opn) _ _ _ = _
        rw [Nat.beq_refl]
        rfl
theorem c_drawn (R : Res) (x : Ix) (b : KL Int) (from' : Nat) (hp : List AObj) (g : R.σ) (hs : small x) (h1 : 1 ≤ x.l.length) (hf : from' < 1000000) (hb : ∀ v ∈ b.l, 0 ≤ v ∧ v ≤ 255) : Does Try.prog R 34 [encIx x, encB b, .int .i64 from'] hp g (.ret (encI ⟨drawnL x b.l from', .exa⟩)) hp g := by
  refine does_any' (fun R g => ?_) (by exact ⟨⟨trivial, trivial⟩, ⟨trivial, ⟨trivial, trivial⟩⟩⟩) R hp g
  refine does_conv (drawn_all R x b from' g hs h1 hf hb) ⟨Le.refl _, Le.refl _, Le.refl _, trivial⟩ ?_
  show Le _ (.fz .exa 1 (drawnL x b.l from').length (fun i _ => .int .i64 ((drawnL x b.l from').getD i 0)))
  rw [drawnL_len]
  refine leK_ok rfl (fun i j hi hj => ?_)
  have : j = 0 := by omega
  subst this
  rw [drawnL_getD hi]
  show AV.int .i64 (if 0 + i * 1 + 0 < x.l.length then drawnV x b.l from' (0 + i * 1 + 0) else 0) = _
  rw [show 0 + i * 1 + 0 = i by omega, if_pos hi]
end Go.Avm.Pack
namespace Go.Avm.Pack
open Go Go.Avm Go.Proofs
open Go.IntKind (i64 u64)
open Go.Avm.AV (int bool any fz fp sl ow ref fn ifc val agg tup)
open Go.Avm.AObj (cells dead)
open Go.Avm.Oc (ret)
set_option maxRecDepth 4000

def newF (x : Ix) (gl : List Rng) (hv : List Int) (s : List Int × List Int) (pl : List Int) : Bool × (List Int × List Int) :=
  (true, if ((faultOf x gl (planOf pl x.l.length)).1 != 0) = true then s else
    (if (bif Nat.beq s.1.length 0 then true else newerB pl s.1) = true then pl else s.1,
     if (bif (bif Nat.beq s.2.length 0 then true else decide ((apartN pl hv : Int) < (apartN s.2 hv : Int))) then true else bif ((apartN pl hv : Int) == (apartN s.2 hv : Int)) then newerB pl s.2 else false) = true then pl else s.2))
def hpW (x : Ix) (gl hv : KL Rng) (h : KL Int) (s : List Int × List Int) : List AObj := [.cells false 1 (nth [encPacks x]), .cells false 1 (fun _ => encR gl), .cells false 1 (nth [encI h]), .cells false 1 (nth [encI ⟨s.1, .auto⟩]), .cells false 1 (nth [encI ⟨s.2, .auto⟩])]
theorem newF_I {x : Ix} {gl : List Rng} {hv : List Int} {s : List Int × List Int} {pl : List Int} (hs : (s.1.length = 0 ∨ s.1.length = x.l.length) ∧ (s.2.length = 0 ∨ s.2.length = x.l.length)) (hpl : pl.length = x.l.length) :
    ((newF x gl hv s pl).2.1.length = 0 ∨ (newF x gl hv s pl).2.1.length = x.l.length) ∧ ((newF x gl hv s pl).2.2.length = 0 ∨ (newF x gl hv s pl).2.2.length = x.l.length) := by
  unfold newF
  simp only
  split
  · exact hs
  · refine ⟨?_, ?_⟩
    · show (if _ then pl else s.1).length = 0 ∨ _
      split
      · exact .inr hpl
      · exact hs.1
    · show (if _ then pl else s.2).length = 0 ∨ _
      split
      · exact .inr hpl
      · exact hs.2
theorem PackNewest1 (R : Res) (x : Ix) (gl hv : KL Rng) (h : KL Int) (s : List Int × List Int) (pl : List Int) (g : R.σ) (hs : small x) (hck : checkB x gl.l = true) (hpl : pl.length = x.l.length) (hin' : inL x pl) (hh : h.l.length = x.l.length)
    (hI : (s.1.length = 0 ∨ s.1.length = x.l.length) ∧ (s.2.length = 0 ∨ s.2.length = x.l.length)) :
    Does Try.prog R 35 [encI ⟨pl, .may⟩, .ref 0 0, .ref 1 0, .ref 3 0, .ref 4 0, .ref 2 0] (hpW x gl hv h s) g (.ret (.bool true)) (hpW x gl hv h (newF x gl.l h.l s pl).2) g := by
  have hx := (check_parts hck).1
  have hgl := check_goals hck
  have hg4 := (check_parts hck).2.1
  have hg : gl.l.length < 1000000 := by omega
  have h18 := formed_le hx
  have h8 := h18.2
  have hplan : isPlan x pl := ⟨hpl, fun i hi => hin' i (by omega)⟩
  have hin := planned_inP (isPlan_planned.2 hplan)
  have hN := formed_wfN hx hin
  have hB := formed_wfB hx hin
  have hN' := formed_smallN hx hin
  have hB' := formed_smallB hx hin
  have hp0 : 0 < pl.length := by omega
  suffices key : Does Try.prog R 35 [encI ⟨pl, .auto⟩, .ref 0 0, .ref 1 0, .ref 3 0, .ref 4 0, .ref 2 0] (hpW x gl hv h s) g (.ret (.bool true)) (hpW x gl hv h (newF x gl.l h.l s pl).2) g from
    does_conv key ⟨Le.may_auto hp0, Le.refl _, Le.refl _, Le.refl _, Le.refl _, Le.refl _, trivial⟩ (Le.refl _)
  obtain ⟨P, hP⟩ : ∃ P : KL Int, P = ⟨pl, .auto⟩ := ⟨_, rfl⟩
  have hPl : P.l = pl := by rw [hP]
  have hPk : P.k = .auto := by rw [hP]
  rw [← hP]
  rw [← hPl] at hin hN hB hN' hB' hp0 hpl
  obtain ⟨b, nr⟩ := s
  obtain ⟨hI1, hI2⟩ := hI
  have hI1 : b.length = 0 ∨ b.length = x.l.length := hI1
  have hI2 : nr.length = 0 ∨ nr.length = x.l.length := hI2
  have e0 : (faultOf x gl.l (planOf P.l x.l.length)).1 ≠ 0 → (newF x gl.l h.l (b, nr) pl).2 = (b, nr) := fun hf => by
    unfold newF
    rw [hPl] at hf
    simp only
    rw [if_pos (by simpa using hf)]
  have e1 : (faultOf x gl.l (planOf P.l x.l.length)).1 = 0 → (newF x gl.l h.l (b, nr) pl).2 = (if (bif Nat.beq b.length 0 then true else newerB P.l b) = true then P.l else b,
     if (bif (bif Nat.beq nr.length 0 then true else decide ((apartN P.l h.l : Int) < (apartN nr h.l : Int))) then true else bif ((apartN P.l h.l : Int) == (apartN nr h.l : Int)) then newerB P.l nr else false) = true then P.l else nr) := fun hf => by
    unfold newF
    rw [hPl] at hf ⊢
    simp only
    rw [if_neg (by simp [hf])]
  obtain ⟨cb, hcb⟩ : ∃ c, c = (bif Nat.beq b.length 0 then true else newerB P.l b) := ⟨_, rfl⟩
  obtain ⟨cn, hcn⟩ : ∃ c, c = (bif (bif Nat.beq nr.length 0 then true else decide ((apartN P.l h.l : Int) < (apartN nr h.l : Int))) then true else bif ((apartN P.l h.l : Int) == (apartN nr h.l : Int)) then newerB P.l nr else false) := ⟨_, rfl⟩
  rw [← hcb, ← hcn] at e1
  have sz1 : nr.length < 1000000 := by omega
  have sz2 : nr.length ≤ h.l.length := by omega
  refine spec_of_wp (nt := 55) (rs := [.tmp 7]) (k0 := 5) (by kernel_rfl) (by kernel_rfl) (by kernel_rfl) rfl ?_
  refine vcQ [] (lkL [(0, [0, 1, 2, 3, 4, 5]), (1, [0, 3, 4, 5, 8]), (2, [0, 3, 4, 5, 18]), (3, [7]), (4, [0, 3, 4, 5, 25]), (5, [0, 4, 5]), (6, [0, 4, 52]), (8, [7])]) (lkL [(1, [(3, ROrc.pcall (tup 2 (nth [int i64 (faultOf x gl.l (planOf P.l (List.length x.l))).fst, int i64 (faultOf x gl.l (planOf P.l (List.length x.l))).snd])))]), (4, [(5, ROrc.pcall (AV.bool (newerB P.l (KL.mk b Fz.auto).l)))]), (5, [(1, ROrc.pcall (encI (KL.mk P.l Fz.auto))), (2, ROrc.val (Orc.obj (nth [fz Fz.auto 1 (List.length P.l) fun (i x : Nat) => int i64 (List.getD P.l i 0)])))]), (6, [(5, ROrc.pcall (int i64 (↑(apartN P.l h.l) : Int))), (8, ROrc.pcall (int i64 (↑(apartN (KL.mk nr Fz.auto).l h.l) : Int))), (14, ROrc.pcall (int i64 (↑(apartN P.l h.l) : Int))), (17, ROrc.pcall (int i64 (↑(apartN (KL.mk nr Fz.auto).l h.l) : Int))), (22, ROrc.pcall (AV.bool (newerB P.l (KL.mk nr Fz.auto).l))), (5, ROrc.pcall (int i64 (↑(apartN P.l h.l) : Int))), (8, ROrc.pcall (int i64 (↑(apartN (KL.mk nr Fz.auto).l h.l) : Int))), (14, ROrc.pcall (int i64 (↑(apartN P.l h.l) : Int))), (17, ROrc.pcall (int i64 (↑(apartN (KL.mk nr Fz.auto).l h.l) : Int))), (22, ROrc.pcall (AV.bool (newerB P.l (KL.mk nr Fz.auto).l)))]), (7, [(1, ROrc.pcall (encI (KL.mk P.l Fz.auto))), (2, ROrc.val (Orc.obj (nth [fz Fz.auto 1 (List.length P.l) fun (i x : Nat) => int i64 (List.getD P.l i 0)]))), (1, ROrc.pcall (encI (KL.mk P.l Fz.auto))), (2, ROrc.val (Orc.obj (nth [fz Fz.auto 1 (List.length P.l) fun (i x : Nat) => int i64 (List.getD P.l i 0)])))])]) (fun (Q : AEx → St R.σ → Prop) => 1 ≤ 1 ∧ 1 ≤ 1 ∧ (∀ (hp : List AObj) (g : R.σ), true = true ∧ Does Try.prog R 15 [encIx x, encR gl, encI P] hp g (ret (tup 2 (nth [int i64 (faultOf x gl.l (planOf P.l (List.length x.l))).fst, int i64 (faultOf x gl.l (planOf P.l (List.length x.l))).snd]))) hp g) ∧ (((faultOf x gl.l (planOf P.l (List.length x.l))).fst != 0) = true → Q AEx.ret (St.mk [(7, AV.bool true)] [cells false 1 (nth [encPacks x]), cells false 1 fun (x : Nat) => encR gl, cells false 1 (nth [encI h]), cells false 1 (nth [fz Fz.auto 1 (List.length b) fun (i x : Nat) => int i64 (List.getD b i 0)]), cells false 1 (nth [fz Fz.auto 1 (List.length nr) fun (i x : Nat) => int i64 (List.getD nr i 0)])] g)) ∧ (((faultOf x gl.l (planOf P.l (List.length x.l))).fst != 0) = false → 1 ≤ 1 ∧ ((!Nat.beq (List.length b) 0) = true → 1 ≤ 1) ∧ ((!Nat.beq (List.length b) 0) = true → ∀ (hp : List AObj) (g : R.σ), true = true ∧ Does Try.prog R 36 [encI P, fz Fz.auto 1 (List.length b) fun (i x : Nat) => int i64 (List.getD b i 0)] hp g (ret (AV.bool (newerB P.l b))) hp g) ∧ ((bif Nat.beq (List.length b) 0 then true else newerB P.l b) = true → (∀ (hp : List AObj) (g : R.σ), true = true ∧ Does Try.prog R 37 [encI P] hp g (ret (fz Fz.auto 1 (List.length P.l) fun (i x : Nat) => int i64 (List.getD P.l i 0))) hp g) ∧ 1 ≤ 1 ∧ (∀ (c : Nat), c < 1 → nth [fz Fz.auto 1 (List.length P.l) fun (i x : Nat) => int i64 (List.getD P.l i 0)] c = over (nth [fz Fz.auto 1 (List.length b) fun (i x : Nat) => int i64 (List.getD b i 0)]) 0 1 (fun (x : Nat) => fz Fz.auto 1 (List.length P.l) fun (i x : Nat) => int i64 (List.getD P.l i 0)) c) ∧ Tables.follows Try.prog.toTables Departure.mixedOrders = true ∧ 1 ≤ 1 ∧ ((!Nat.beq (List.length nr) 0) = true → 1 ≤ 1) ∧ ((!Nat.beq (List.length nr) 0) = true → ∀ (hp : List AObj) (g : R.σ), true = true ∧ Does Try.prog R 38 [encI P, encI h] hp g (ret (int i64 (↑(apartN P.l h.l) : Int))) hp g) ∧ ((!Nat.beq (List.length nr) 0) = true → 1 ≤ 1) ∧ ((!Nat.beq (List.length nr) 0) = true → 1 ≤ 1) ∧ ((!Nat.beq (List.length nr) 0) = true → ∀ (hp : List AObj) (g : R.σ), true = true ∧ Does Try.prog R 38 [fz Fz.auto 1 (List.length nr) fun (i x : Nat) => int i64 (List.getD nr i 0), encI h] hp g (ret (int i64 (↑(apartN nr h.l) : Int))) hp g) ∧ ((!bif Nat.beq (List.length nr) 0 then true else decide ((↑(apartN P.l h.l) : Int) < (↑(apartN nr h.l) : Int))) = true → 1 ≤ 1) ∧ ((!bif Nat.beq (List.length nr) 0 then true else decide ((↑(apartN P.l h.l) : Int) < (↑(apartN nr h.l) : Int))) = true → ∀ (hp : List AObj) (g : R.σ), true = true ∧ Does Try.prog R 38 [encI P, encI h] hp g (ret (int i64 (↑(apartN P.l h.l) : Int))) hp g) ∧ ((!bif Nat.beq (List.length nr) 0 then true else decide ((↑(apartN P.l h.l) : Int) < (↑(apartN nr h.l) : Int))) = true → 1 ≤ 1) ∧ ((!bif Nat.beq (List.length nr) 0 then true else decide ((↑(apartN P.l h.l) : Int) < (↑(apartN nr h.l) : Int))) = true → 1 ≤ 1) ∧ ((!bif Nat.beq (List.length nr) 0 then true else decide ((↑(apartN P.l h.l) : Int) < (↑(apartN nr h.l) : Int))) = true → ∀ (hp : List AObj) (g : R.σ), true = true ∧ Does Try.prog R 38 [fz Fz.auto 1 (List.length nr) fun (i x : Nat) => int i64 (List.getD nr i 0), encI h] hp g (ret (int i64 (↑(apartN nr h.l) : Int))) hp g) ∧ (((!bif Nat.beq (List.length nr) 0 then true else decide ((↑(apartN P.l h.l) : Int) < (↑(apartN nr h.l) : Int))) && (↑(apartN P.l h.l) : Int) == (↑(apartN nr h.l) : Int)) = true → 1 ≤ 1) ∧ (((!bif Nat.beq (List.length nr) 0 then true else decide ((↑(apartN P.l h.l) : Int) < (↑(apartN nr h.l) : Int))) && (↑(apartN P.l h.l) : Int) == (↑(apartN nr h.l) : Int)) = true → ∀ (hp : List AObj) (g : R.σ), true = true ∧ Does Try.prog R 36 [encI P, fz Fz.auto 1 (List.length nr) fun (i x : Nat) => int i64 (List.getD nr i 0)] hp g (ret (AV.bool (newerB P.l nr))) hp g) ∧ ((bif bif Nat.beq (List.length nr) 0 then true else decide ((↑(apartN P.l h.l) : Int) < (↑(apartN nr h.l) : Int)) then true else bif (↑(apartN P.l h.l) : Int) == (↑(apartN nr h.l) : Int) then newerB P.l nr else false) = true → (∀ (hp : List AObj) (g : R.σ), true = true ∧ Does Try.prog R 37 [encI P] hp g (ret (fz Fz.auto 1 (List.length P.l) fun (i x : Nat) => int i64 (List.getD P.l i 0))) hp g) ∧ 1 ≤ 1 ∧ (∀ (c : Nat), c < 1 → nth [fz Fz.auto 1 (List.length P.l) fun (i x : Nat) => int i64 (List.getD P.l i 0)] c = over (nth [fz Fz.auto 1 (List.length nr) fun (i x : Nat) => int i64 (List.getD nr i 0)]) 0 1 (fun (x : Nat) => fz Fz.auto 1 (List.length P.l) fun (i x : Nat) => int i64 (List.getD P.l i 0)) c) ∧ Q AEx.ret (St.mk [(7, AV.bool true)] [cells false 1 (nth [encPacks x]), cells false 1 fun (x : Nat) => encR gl, cells false 1 (nth [encI h]), cells false 1 (nth [fz Fz.auto 1 (List.length P.l) fun (i x : Nat) => int i64 (List.getD P.l i 0)]), cells false 1 (nth [fz Fz.auto 1 (List.length P.l) fun (i x : Nat) => int i64 (List.getD P.l i 0)])] g)) ∧ ((bif bif Nat.beq (List.length nr) 0 then true else decide ((↑(apartN P.l h.l) : Int) < (↑(apartN nr h.l) : Int)) then true else bif (↑(apartN P.l h.l) : Int) == (↑(apartN nr h.l) : Int) then newerB P.l nr else false) = false → Q AEx.ret (St.mk [(7, AV.bool true)] [cells false 1 (nth [encPacks x]), cells false 1 fun (x : Nat) => encR gl, cells false 1 (nth [encI h]), cells false 1 (nth [fz Fz.auto 1 (List.length P.l) fun (i x : Nat) => int i64 (List.getD P.l i 0)]), cells false 1 (nth [fz Fz.auto 1 (List.length nr) fun (i x : Nat) => int i64 (List.getD nr i 0)])] g))) ∧ ((bif Nat.beq (List.length b) 0 then true else newerB P.l b) = false → Tables.follows Try.prog.toTables Departure.mixedOrders = true ∧ 1 ≤ 1 ∧ ((!Nat.beq (List.length nr) 0) = true → 1 ≤ 1) ∧ ((!Nat.beq (List.length nr) 0) = true → ∀ (hp : List AObj) (g : R.σ), true = true ∧ Does Try.prog R 38 [encI P, encI h] hp g (ret (int i64 (↑(apartN P.l h.l) : Int))) hp g) ∧ ((!Nat.beq (List.length nr) 0) = true → 1 ≤ 1) ∧ ((!Nat.beq (List.length nr) 0) = true → 1 ≤ 1) ∧ ((!Nat.beq (List.length nr) 0) = true → ∀ (hp : List AObj) (g : R.σ), true = true ∧ Does Try.prog R 38 [fz Fz.auto 1 (List.length nr) fun (i x : Nat) => int i64 (List.getD nr i 0), encI h] hp g (ret (int i64 (↑(apartN nr h.l) : Int))) hp g) ∧ ((!bif Nat.beq (List.length nr) 0 then true else decide ((↑(apartN P.l h.l) : Int) < (↑(apartN nr h.l) : Int))) = true → 1 ≤ 1) ∧ ((!bif Nat.beq (List.length nr) 0 then true else decide ((↑(apartN P.l h.l) : Int) < (↑(apartN nr h.l) : Int))) = true → ∀ (hp : List AObj) (g : R.σ), true = true ∧ Does Try.prog R 38 [encI P, encI h] hp g (ret (int i64 (↑(apartN P.l h.l) : Int))) hp g) ∧ ((!bif Nat.beq (List.length nr) 0 then true else decide ((↑(apartN P.l h.l) : Int) < (↑(apartN nr h.l) : Int))) = true → 1 ≤ 1) ∧ ((!bif Nat.beq (List.length nr) 0 then true else decide ((↑(apartN P.l h.l) : Int) < (↑(apartN nr h.l) : Int))) = true → 1 ≤ 1) ∧ ((!bif Nat.beq (List.length nr) 0 then true else decide ((↑(apartN P.l h.l) : Int) < (↑(apartN nr h.l) : Int))) = true → ∀ (hp : List AObj) (g : R.σ), true = true ∧ Does Try.prog R 38 [fz Fz.auto 1 (List.length nr) fun (i x : Nat) => int i64 (List.getD nr i 0), encI h] hp g (ret (int i64 (↑(apartN nr h.l) : Int))) hp g) ∧ (((!bif Nat.beq (List.length nr) 0 then true else decide ((↑(apartN P.l h.l) : Int) < (↑(apartN nr h.l) : Int))) && (↑(apartN P.l h.l) : Int) == (↑(apartN nr h.l) : Int)) = true → 1 ≤ 1) ∧ (((!bif Nat.beq (List.length nr) 0 then true else decide ((↑(apartN P.l h.l) : Int) < (↑(apartN nr h.l) : Int))) && (↑(apartN P.l h.l) : Int) == (↑(apartN nr h.l) : Int)) = true → ∀ (hp : List AObj) (g : R.σ), true = true ∧ Does Try.prog R 36 [encI P, fz Fz.auto 1 (List.length nr) fun (i x : Nat) => int i64 (List.getD nr i 0)] hp g (ret (AV.bool (newerB P.l nr))) hp g) ∧ ((bif bif Nat.beq (List.length nr) 0 then true else decide ((↑(apartN P.l h.l) : Int) < (↑(apartN nr h.l) : Int)) then true else bif (↑(apartN P.l h.l) : Int) == (↑(apartN nr h.l) : Int) then newerB P.l nr else false) = true → (∀ (hp : List AObj) (g : R.σ), true = true ∧ Does Try.prog R 37 [encI P] hp g (ret (fz Fz.auto 1 (List.length P.l) fun (i x : Nat) => int i64 (List.getD P.l i 0))) hp g) ∧ 1 ≤ 1 ∧ (∀ (c : Nat), c < 1 → nth [fz Fz.auto 1 (List.length P.l) fun (i x : Nat) => int i64 (List.getD P.l i 0)] c = over (nth [fz Fz.auto 1 (List.length nr) fun (i x : Nat) => int i64 (List.getD nr i 0)]) 0 1 (fun (x : Nat) => fz Fz.auto 1 (List.length P.l) fun (i x : Nat) => int i64 (List.getD P.l i 0)) c) ∧ Q AEx.ret (St.mk [(7, AV.bool true)] [cells false 1 (nth [encPacks x]), cells false 1 fun (x : Nat) => encR gl, cells false 1 (nth [encI h]), cells false 1 (nth [fz Fz.auto 1 (List.length b) fun (i x : Nat) => int i64 (List.getD b i 0)]), cells false 1 (nth [fz Fz.auto 1 (List.length P.l) fun (i x : Nat) => int i64 (List.getD P.l i 0)])] g)) ∧ ((bif bif Nat.beq (List.length nr) 0 then true else decide ((↑(apartN P.l h.l) : Int) < (↑(apartN nr h.l) : Int)) then true else bif (↑(apartN P.l h.l) : Int) == (↑(apartN nr h.l) : Int) then newerB P.l nr else false) = false → Q AEx.ret (St.mk [(7, AV.bool true)] [cells false 1 (nth [encPacks x]), cells false 1 fun (x : Nat) => encR gl, cells false 1 (nth [encI h]), cells false 1 (nth [fz Fz.auto 1 (List.length b) fun (i x : Nat) => int i64 (List.getD b i 0)]), cells false 1 (nth [fz Fz.auto 1 (List.length nr) fun (i x : Nat) => int i64 (List.getD nr i 0)])] g))))) (fun _ => by kernel_rfl) ⟨(by omega), ⟨(by omega), ⟨(fun _ _ => ⟨rfl, (Go.Avm.Pack.c_rFault _ _ _ _ _ _ (by omega) (by omega) (by omega) (by omega) (by omega) (by omega) (by omega) (by omega) (by omega) (by omega))⟩), ⟨fun c1 => have c1 : ¬(faultOf x gl.l (planOf P.l (List.length x.l))).fst = 0 := (bne_iff_ne.mp c1); ?_, fun c1 => have c1 : (faultOf x gl.l (planOf P.l (List.length x.l))).fst = 0 := (bne_eq_false_iff_eq.mp c1); ⟨(by omega), ⟨(by omega), ⟨(fun hgd => (fun _ _ => ⟨rfl, (Go.Avm.Pack.c_newer _ _ (KL.mk b Fz.auto) _ _ (by omega) ?_)⟩)), ⟨fun c2 => have c2 : Nat.beq (List.length b) 0 = true ∨ newerB P.l b = true := ((cO_t c2).imp (fun h => h) (fun h => h)); ⟨(fun _ _ => ⟨rfl, (Go.Avm.Pack.c_CloneI _ _ _ _ (by omega) (by omega) (by omega))⟩), ⟨(by omega), ⟨(fun c hc => match c, hc with | 0, _ => (by kernel_rfl) ), ⟨(by kernel_rfl), ⟨(by omega), ⟨(by omega), ⟨(fun hgd => (fun _ _ => ⟨rfl, (Go.Avm.Pack.c_apart _ _ _ _ _ (by omega) (by omega))⟩)), ⟨(by omega), ⟨(by omega), ⟨(fun hgd => (fun _ _ => ⟨rfl, (Go.Avm.Pack.c_apart _ (KL.mk nr Fz.auto) _ _ _ (by omega) (by omega))⟩)), ⟨(by omega), ⟨(fun hgd => (fun _ _ => ⟨rfl, (Go.Avm.Pack.c_apart _ _ _ _ _ (by omega) (by omega))⟩)), ⟨(by omega), ⟨(by omega), ⟨(fun hgd => (fun _ _ => ⟨rfl, (Go.Avm.Pack.c_apart _ (KL.mk nr Fz.auto) _ _ _ (by omega) (by omega))⟩)), ⟨(by omega), ⟨(fun hgd => (fun _ _ => ⟨rfl, (Go.Avm.Pack.c_newer _ _ (KL.mk nr Fz.auto) _ _ (by omega) ?_)⟩)), ⟨fun c3 => have c3 : (Nat.beq (List.length nr) 0 = true ∨ (↑(apartN P.l h.l) : Int) < (↑(apartN nr h.l) : Int)) ∨ (↑(apartN P.l h.l) : Int) = (↑(apartN nr h.l) : Int) ∧ newerB P.l nr = true := ((cO_t c3).imp (fun h => ((cO_t h).imp (fun h => h) (fun h => (of_decide_eq_true h)))) (fun h => ⟨(beq_iff_eq.mp (cA_t h).1), (cA_t h).2⟩)); ⟨(fun _ _ => ⟨rfl, (Go.Avm.Pack.c_CloneI _ _ _ _ (by omega) (by omega) (by omega))⟩), ⟨(by omega), ⟨(fun c hc => match c, hc with | 0, _ => (by kernel_rfl) ), ?_⟩⟩⟩, fun c3 => have c3 : (Nat.beq (List.length nr) 0 = false ∧ ¬(↑(apartN P.l h.l) : Int) < (↑(apartN nr h.l) : Int)) ∧ (¬(↑(apartN P.l h.l) : Int) = (↑(apartN nr h.l) : Int) ∨ newerB P.l nr = false) := ⟨⟨(cO_f (cO_f c3).1).1, (of_decide_eq_false (cO_f (cO_f c3).1).2)⟩, ((cA_f (cO_f c3).2).imp (fun h => (beq_eq_false_iff_ne.mp h)) (fun h => h))⟩; ?_⟩⟩⟩⟩⟩⟩⟩⟩⟩⟩⟩⟩⟩⟩⟩⟩⟩⟩, fun c2 => have c2 : Nat.beq (List.length b) 0 = false ∧ newerB P.l b = false := ⟨(cO_f c2).1, (cO_f c2).2⟩; ⟨(by kernel_rfl), ⟨(by omega), ⟨(by omega), ⟨(fun hgd => (fun _ _ => ⟨rfl, (Go.Avm.Pack.c_apart _ _ _ _ _ (by omega) (by omega))⟩)), ⟨(by omega), ⟨(by omega), ⟨(fun hgd => (fun _ _ => ⟨rfl, (Go.Avm.Pack.c_apart _ (KL.mk nr Fz.auto) _ _ _ (by omega) (by omega))⟩)), ⟨(by omega), ⟨(fun hgd => (fun _ _ => ⟨rfl, (Go.Avm.Pack.c_apart _ _ _ _ _ (by omega) (by omega))⟩)), ⟨(by omega), ⟨(by omega), ⟨(fun hgd => (fun _ _ => ⟨rfl, (Go.Avm.Pack.c_apart _ (KL.mk nr Fz.auto) _ _ _ (by omega) (by omega))⟩)), ⟨(by omega), ⟨(fun hgd => (fun _ _ => ⟨rfl, (Go.Avm.Pack.c_newer _ _ (KL.mk nr Fz.auto) _ _ (by omega) ?_)⟩)), ⟨fun c3 => have c3 : (Nat.beq (List.length nr) 0 = true ∨ (↑(apartN P.l h.l) : Int) < (↑(apartN nr h.l) : Int)) ∨ (↑(apartN P.l h.l) : Int) = (↑(apartN nr h.l) : Int) ∧ newerB P.l nr = true := ((cO_t c3).imp (fun h => ((cO_t h).imp (fun h => h) (fun h => (of_decide_eq_true h)))) (fun h => ⟨(beq_iff_eq.mp (cA_t h).1), (cA_t h).2⟩)); ⟨(fun _ _ => ⟨rfl, (Go.Avm.Pack.c_CloneI _ _ _ _ (by omega) (by omega) (by omega))⟩), ⟨(by omega), ⟨(fun c hc => match c, hc with | 0, _ => (by kernel_rfl) ), ?_⟩⟩⟩, fun c3 => have c3 : (Nat.beq (List.length nr) 0 = false ∧ ¬(↑(apartN P.l h.l) : Int) < (↑(apartN nr h.l) : Int)) ∧ (¬(↑(apartN P.l h.l) : Int) = (↑(apartN nr h.l) : Int) ∨ newerB P.l nr = false) := ⟨⟨(cO_f (cO_f c3).1).1, (of_decide_eq_false (cO_f (cO_f c3).1).2)⟩, ((cA_f (cO_f c3).2).imp (fun h => (beq_eq_false_iff_ne.mp h)) (fun h => h))⟩; ?_⟩⟩⟩⟩⟩⟩⟩⟩⟩⟩⟩⟩⟩⟩⟩⟩⟩⟩⟩⟩⟩⟩⟩
  · rw [e0 c1]
    refine (retQ_le (retQ_same' _ _ rfl trivial rfl rfl rfl) (Le.refl _))
  · show P.l.length ≤ b.length
    rcases hI1 with hz | hz
    · rw [hz] at hgd; cases hgd
    · omega
  · show P.l.length ≤ nr.length
    rcases hI2 with hz | hz
    · rw [hz] at hgd; simp at hgd
    · omega
  · have hb1 : cb = true := by rw [hcb]; assumption
    have hn1 : cn = true := by rw [hcn]; assumption
    rw [e1 c1, hb1, hn1]
    refine (retQ_le (retQ_take' 5 _ _ rfl trivial (by omega) trivial ⟨(fun j hj => match j, hj with | 0, _ => trivial ), ⟨(fun j hj => match j, hj with | 0, _ => trivial ), ⟨(fun j hj => match j, hj with | 0, _ => trivial ), ⟨(fun j hj => match j, hj with | 0, _ => trivial ), ⟨(fun j hj => match j, hj with | 0, _ => trivial ), trivial⟩⟩⟩⟩⟩ (by kernel_rfl) rfl rfl) (Le.refl _))
  · have hb1 : cb = true := by rw [hcb]; assumption
    have hn1 : cn = false := by rw [hcn]; assumption
    rw [e1 c1, hb1, hn1]
    refine (retQ_le (retQ_take' 5 _ _ rfl trivial (by omega) trivial ⟨(fun j hj => match j, hj with | 0, _ => trivial ), ⟨(fun j hj => match j, hj with | 0, _ => trivial ), ⟨(fun j hj => match j, hj with | 0, _ => trivial ), ⟨(fun j hj => match j, hj with | 0, _ => trivial ), ⟨(fun j hj => match j, hj with | 0, _ => trivial ), trivial⟩⟩⟩⟩⟩ (by kernel_rfl) rfl rfl) (Le.refl _))
  · show P.l.length ≤ nr.length
    rcases hI2 with hz | hz
    · rw [hz] at hgd; simp at hgd
    · omega
  · have hb1 : cb = false := by rw [hcb]; assumption
    have hn1 : cn = true := by rw [hcn]; assumption
    rw [e1 c1, hb1, hn1]
    refine (retQ_le (retQ_take' 5 _ _ rfl trivial (by omega) trivial ⟨(fun j hj => match j, hj with | 0, _ => trivial ), ⟨(fun j hj => match j, hj with | 0, _ => trivial ), ⟨(fun j hj => match j, hj with | 0, _ => trivial ), ⟨(fun j hj => match j, hj with | 0, _ => trivial ), ⟨(fun j hj => match j, hj with | 0, _ => trivial ), trivial⟩⟩⟩⟩⟩ (by kernel_rfl) rfl rfl) (Le.refl _))
  · have hb1 : cb = false := by rw [hcb]; assumption
    have hn1 : cn = false := by rw [hcn]; assumption
    rw [e1 c1, hb1, hn1]
    refine (retQ_le (retQ_take' 5 _ _ rfl trivial (by omega) trivial ⟨(fun j hj => match j, hj with | 0, _ => trivial ), ⟨(fun j hj => match j, hj with | 0, _ => trivial ), ⟨(fun j hj => match j, hj with | 0, _ => trivial ), ⟨(fun j hj => match j, hj with | 0, _ => trivial ), ⟨(fun j hj => match j, hj with | 0, _ => trivial ), trivial⟩⟩⟩⟩⟩ (by kernel_rfl) rfl rfl) (Le.refl _))
end Go.Avm.Pack
namespace Go.Avm.Pack
open Go Go.Avm Go.Proofs
open Go.IntKind (i64 u64)
open Go.Avm.AV (int bool any fz fp sl ow ref fn ifc val agg tup)
open Go.Avm.AObj (cells dead)
open Go.Avm.Oc (ret)
set_option maxRecDepth 4000

theorem nwV_trans {v w u : Int} (h1 : v ≠ w) (h2 : nwV v w = true) (h3 : w ≠ u) (h4 : nwV w u = true) : v ≠ u ∧ nwV v u = true := by
  unfold nwV at *
  simp at *
  omega
theorem nwV_total {v w : Int} (h : v ≠ w) : nwV v w = true ∨ nwV w v = true := by
  unfold nwV
  simp
  omega
theorem nwV_asym {v w : Int} (h : v ≠ w) (h1 : nwV v w = true) : nwV w v = false := by
  unfold nwV at *
  simp at *
  omega
theorem newerF_iff {a b : List Int} : ∀ (k i : Nat), newerF a b k i = true ↔ ∃ t, i ≤ t ∧ t < i + k ∧ (∀ j, i ≤ j → j < t → a.getD j 0 = b.getD j 0) ∧ a.getD t 0 ≠ b.getD t 0 ∧ nwV (a.getD t 0) (b.getD t 0) = true
  | 0, i => by
    constructor
    · intro h; cases h
    · rintro ⟨t, h1, h2, _⟩; omega
  | k + 1, i => by
    unfold newerF
    by_cases he : a.getD i 0 = b.getD i 0
    · rw [if_pos (by simpa using he), newerF_iff k (i + 1)]
      constructor
      · rintro ⟨t, h1, h2, h3, h4⟩
        refine ⟨t, by omega, by omega, fun j hj1 hj2 => ?_, h4⟩
        by_cases hji : j = i
        · rw [hji, he]
        · exact h3 j (by omega) hj2
      · rintro ⟨t, h1, h2, h3, h4, h5⟩
        have : t ≠ i := fun e => by rw [e] at h4; exact h4 he
        exact ⟨t, by omega, by omega, fun j hj1 hj2 => h3 j (by omega) hj2, h4, h5⟩
    · rw [if_neg (by simpa using he)]
      constructor
      · intro h
        exact ⟨i, Nat.le_refl _, by omega, fun j h1 h2 => absurd h2 (by omega), he, h⟩
      · rintro ⟨t, h1, h2, h3, h4, h5⟩
        by_cases hti : t = i
        · rw [hti] at h5; exact h5
        · exact absurd (h3 i (Nat.le_refl _) (by omega)) he
theorem newer_iff {a b : List Int} : newerB a b = true ↔ ∃ t, t < a.length ∧ (∀ j, j < t → a.getD j 0 = b.getD j 0) ∧ a.getD t 0 ≠ b.getD t 0 ∧ nwV (a.getD t 0) (b.getD t 0) = true := by
  unfold newerB
  rw [newerF_iff]
  constructor
  · rintro ⟨t, _, h2, h3, h4⟩
    exact ⟨t, by omega, fun j hj => h3 j (Nat.zero_le _) hj, h4⟩
  · rintro ⟨t, h2, h3, h4⟩
    exact ⟨t, Nat.zero_le _, by omega, fun j _ hj => h3 j hj, h4⟩
theorem newer_trans {a b c : List Int} (hab : a.length = b.length) (h1 : newerB a b = true) (h2 : newerB b c = true) : newerB a c = true := by
  rw [newer_iff] at *
  obtain ⟨s, s1, s2, s3, s4⟩ := h1
  obtain ⟨t, t1, t2, t3, t4⟩ := h2
  rcases Nat.lt_trichotomy s t with h | h | h
  · exact ⟨s, s1, fun j hj => by rw [s2 j hj, t2 j (by omega)], by rw [← t2 s h]; exact s3, by rw [← t2 s h]; exact s4⟩
  · subst h
    obtain ⟨u1, u2⟩ := nwV_trans s3 s4 t3 t4
    exact ⟨s, s1, fun j hj => by rw [s2 j hj, t2 j hj], u1, u2⟩
  · exact ⟨t, by omega, fun j hj => by rw [s2 j (by omega), t2 j hj], by rw [s2 t h]; exact t3, by rw [s2 t h]; exact t4⟩
theorem newer_asym {a b : List Int} (h1 : newerB a b = true) (h2 : newerB b a = true) : False := by
  rw [newer_iff] at *
  obtain ⟨s, s1, s2, s3, s4⟩ := h1
  obtain ⟨t, t1, t2, t3, t4⟩ := h2
  rcases Nat.lt_trichotomy s t with h | h | h
  · exact s3 (t2 s h).symm
  · subst h
    rw [nwV_asym s3 s4] at t4
    cases t4
  · exact t3 (s2 t h).symm
theorem first_diff {a b : List Int} (h : a.length = b.length) (hne : a ≠ b) : ∃ t, t < a.length ∧ (∀ j, j < t → a.getD j 0 = b.getD j 0) ∧ a.getD t 0 ≠ b.getD t 0 := by
  have key : ∀ n, n ≤ a.length → (∀ j, j < n → a.getD j 0 = b.getD j 0) ∨ ∃ t, t < n ∧ (∀ j, j < t → a.getD j 0 = b.getD j 0) ∧ a.getD t 0 ≠ b.getD t 0 := by
    intro n
    induction n with
    | zero => intro _; exact .inl (fun j hj => absurd hj (by omega))
    | succ n ih =>
      intro hn
      rcases ih (by omega) with h1 | ⟨t, h1, h2⟩
      · by_cases he : a.getD n 0 = b.getD n 0
        · left
          intro j hj
          by_cases hjn : j = n
          · rw [hjn, he]
          · exact h1 j (by omega)
        · exact .inr ⟨n, by omega, h1, he⟩
      · exact .inr ⟨t, by omega, h2⟩
  rcases key a.length (Nat.le_refl _) with h1 | h1
  · exact absurd (ext_getD 0 h h1) hne
  · exact h1
theorem newer_total {a b : List Int} (h : a.length = b.length) (hne : a ≠ b) : newerB a b = true ∨ newerB b a = true := by
  obtain ⟨t, h1, h2, h3⟩ := first_diff h hne
  rcases nwV_total h3 with h4 | h4
  · exact .inl (newer_iff.2 ⟨t, h1, h2, h3, h4⟩)
  · exact .inr (newer_iff.2 ⟨t, by omega, fun j hj => (h2 j hj).symm, fun e => h3 e.symm, h4⟩)

structure Ord (x : Ix) (lt : List Int → List Int → Bool) : Prop where
  trans : ∀ a b c, isPlan x a → isPlan x b → isPlan x c → lt a b = true → lt b c = true → lt a c = true
  asym : ∀ a b, lt a b = true → lt b a = true → False
  total : ∀ a b, isPlan x a → isPlan x b → a ≠ b → lt a b = true ∨ lt b a = true
theorem ord_newer (x : Ix) : Ord x newerB :=
  ⟨fun a b c ha hb hc => newer_trans (by rw [ha.1, hb.1]), fun a b => newer_asym, fun a b ha hb => newer_total (by rw [ha.1, hb.1])⟩
def closerB (hv a b : List Int) : Bool := decide (apartN a hv < apartN b hv) || (apartN a hv == apartN b hv && newerB a b)
theorem closer_iff {hv a b : List Int} : closerB hv a b = true ↔ apartN a hv < apartN b hv ∨ apartN a hv = apartN b hv ∧ newerB a b = true := by
  unfold closerB
  simp
theorem ord_closer (x : Ix) (hv : List Int) : Ord x (closerB hv) := by
  refine ⟨fun a b c ha hb hc h1 h2 => ?_, fun a b h1 h2 => ?_, fun a b ha hb hne => ?_⟩
  · rw [closer_iff] at *
    rcases h1 with h1 | ⟨h1, h3⟩ <;> rcases h2 with h2 | ⟨h2, h4⟩
    · exact .inl (by omega)
    · exact .inl (by omega)
    · exact .inl (by omega)
    · exact .inr ⟨by omega, (ord_newer x).trans a b c ha hb hc h3 h4⟩
  · rw [closer_iff] at *
    rcases h1 with h1 | ⟨h1, h3⟩ <;> rcases h2 with h2 | ⟨h2, h4⟩
    · omega
    · omega
    · omega
    · exact newer_asym h3 h4
  · rw [closer_iff, closer_iff]
    rcases Nat.lt_trichotomy (apartN a hv) (apartN b hv) with h | h | h
    · exact .inl (.inl h)
    · rcases (ord_newer x).total a b ha hb hne with h1 | h1
      · exact .inl (.inr ⟨h, h1⟩)
      · exact .inr (.inr ⟨h.symm, h1⟩)
    · exact .inr (.inl h)
def Pick (x : Ix) (okf : List Int → Bool) (lt : List Int → List Int → Bool) (S : List Int → Prop) (q : List Int) : Prop :=
  (q = [] ∧ ∀ r, S r → okf r = false) ∨ (isPlan x q ∧ S q ∧ okf q = true ∧ ∀ r, S r → okf r = true → r ≠ q → lt q r = true)
theorem pick_unique {x : Ix} {okf : List Int → Bool} {lt : List Int → List Int → Bool} (O : Ord x lt) {S : List Int → Prop} {p q : List Int} (hp : Pick x okf lt S p) (hq : Pick x okf lt S q) : p = q := by
  rcases hp with ⟨rfl, h1⟩ | ⟨p1, p2, p3, p4⟩ <;> rcases hq with ⟨rfl, h2⟩ | ⟨q1, q2, q3, q4⟩
  · rfl
  · rw [h1 q q2] at q3; cases q3
  · rw [h2 p p2] at p3; cases p3
  · apply Classical.byContradiction
    intro hne
    exact O.asym p q (p4 q q2 q3 (fun e => hne e.symm)) (q4 p p2 p3 hne)
theorem pick_step {x : Ix} (hx : formedB x = true) {okf : List Int → Bool} {lt : List Int → List Int → Bool} (O : Ord x lt) {S T : List Int → Prop} {q r : List Int} (h : Pick x okf lt S q) (hr : isPlan x r) (hS : ∀ a, S a → isPlan x a) (hT : ∀ a, T a ↔ S a ∨ a = r) :
    Pick x okf lt T (if okf r = true then (if q = [] ∨ lt r q = true then r else q) else q) := by
  have hrn : r ≠ [] := plan_ne hx hr
  cases ho : okf r with
  | false =>
    simp only [Bool.false_eq_true, if_false]
    rcases h with ⟨rfl, h1⟩ | ⟨p1, p2, p3, p4⟩
    · exact .inl ⟨rfl, fun a ha => by rcases (hT a).1 ha with ha | rfl; exact h1 a ha; exact ho⟩
    · exact .inr ⟨p1, (hT q).2 (.inl p2), p3, fun a ha hoa hne => by
        rcases (hT a).1 ha with ha | rfl
        · exact p4 a ha hoa hne
        · rw [ho] at hoa; cases hoa⟩
  | true =>
    simp only [if_true]
    rcases h with ⟨rfl, h1⟩ | ⟨p1, p2, p3, p4⟩
    · rw [if_pos (.inl rfl)]
      exact .inr ⟨hr, (hT r).2 (.inr rfl), ho, fun a ha hoa hne => by
        rcases (hT a).1 ha with ha | rfl
        · rw [h1 a ha] at hoa; cases hoa
        · exact absurd rfl hne⟩
    · by_cases hl : lt r q = true
      · rw [if_pos (.inr hl)]
        refine .inr ⟨hr, (hT r).2 (.inr rfl), ho, fun a ha hoa hne => ?_⟩
        rcases (hT a).1 ha with ha | rfl
        · by_cases haq : a = q
          · rw [haq]; exact hl
          · exact O.trans r q a hr p1 (hS a ha) hl (p4 a ha hoa haq)
        · exact absurd rfl hne
      · rw [if_neg (by rintro (h | h); exact plan_ne hx p1 h; exact hl h)]
        refine .inr ⟨p1, (hT q).2 (.inl p2), p3, fun a ha hoa hne => ?_⟩
        rcases (hT a).1 ha with ha | rfl
        · exact p4 a ha hoa hne
        · rcases O.total a q hr p1 hne with h | h
          · exact absurd h hl
          · exact h
end Go.Avm.Pack
namespace Go.Avm.Pack
open Go Go.Avm Go.Proofs
open Go.IntKind (i64 u64)
open Go.Avm.AV (int bool any fz fp sl ow ref fn ifc val agg tup)
open Go.Avm.AObj (cells dead)
open Go.Avm.Oc (ret)
set_option maxRecDepth 4000

theorem diff_apart {x : Ix} {q hv : List Int} (hq : q.length = x.l.length) (hh : hv.length = x.l.length) : diffN q hv = apartN q hv := by
  unfold diffN apartN
  rw [hq, hh, Nat.min_self]
theorem ite_iff' {α : Type} {p q : Prop} [Decidable p] [Decidable q] {a b : α} (h : p ↔ q) : (if p then a else b) = if q then a else b := by
  by_cases hp : p
  · rw [if_pos hp, if_pos (h.1 hp)]
  · rw [if_neg hp, if_neg (fun hq => hp (h.2 hq))]
theorem beq_len {q : List Int} : (Nat.beq q.length 0 = true) ↔ q = [] := by
  constructor
  · intro h; exact List.eq_nil_of_length_eq_zero (Nat.eq_of_beq_eq_true h)
  · rintro rfl; rfl
theorem enumS_sorted {x : Ix} : ∀ (k m : Nat), m + k = x.l.length → ∀ pl : List Int, pl.length = x.l.length → (enumS x k pl).Pairwise fun a b => newerB a b = true
  | 0, m, hm, pl, hpl => List.pairwise_singleton _ _
  | k + 1, m, hm, pl, hpl => by
    have em : x.l.length - (k + 1) = m := by omega
    unfold enumS
    rw [em]
    obtain ⟨N, hN⟩ : ∃ N, (x.l.getD m default).l.length = N := ⟨_, rfl⟩
    rw [hN]
    have key : ∀ n, n ≤ N + 1 → ((List.range n).flatMap fun j => enumS x k (pl.set m (itemC N j))).Pairwise fun a b => newerB a b = true := by
      intro n
      induction n with
      | zero => intro _; exact List.Pairwise.nil
      | succ n ih =>
        intro hn
        rw [List.range_succ, List.flatMap_append, List.pairwise_append]
        refine ⟨ih (by omega), by simpa using enumS_sorted k (m + 1) (by omega) (pl.set m (itemC N n)) (by simpa using hpl), fun a ha b hb => ?_⟩
        obtain ⟨j, hj, ha⟩ := List.mem_flatMap.1 ha
        have hj : j < n := List.mem_range.1 hj
        have hb : b ∈ enumS x k (pl.set m (itemC N n)) := by simpa using hb
        obtain ⟨a1, a2, _⟩ := (enumS_mem k (m + 1) (by omega) _ (by simpa using hpl)).1 ha
        obtain ⟨b1, b2, _⟩ := (enumS_mem k (m + 1) (by omega) _ (by simpa using hpl)).1 hb
        have am : a.getD m 0 = itemC N j := by rw [a2 m (by omega), set_getD (by omega), if_pos rfl]
        have bm : b.getD m 0 = itemC N n := by rw [b2 m (by omega), set_getD (by omega), if_pos rfl]
        have hlt : itemC N j ≠ itemC N n ∧ nwV (itemC N j) (itemC N n) = true := by
          obtain ⟨n', rfl⟩ : ∃ n', n = n' + 1 := ⟨n - 1, by omega⟩
          have hn' : itemC N (n' + 1) = (N : Int) - (n' + 1 : Nat) := rfl
          cases j with
          | zero =>
            have h0 : itemC N 0 = -1 := rfl
            rw [h0, hn']
            exact ⟨by omega, rfl⟩
          | succ j =>
            have h0 : itemC N (j + 1) = (N : Int) - (j + 1 : Nat) := rfl
            rw [h0, hn']
            refine ⟨by omega, ?_⟩
            unfold nwV
            simp
            omega
        refine newer_iff.2 ⟨m, by omega, fun i hi => ?_, by rw [am, bm]; exact hlt.1, by rw [am, bm]; exact hlt.2⟩
        rw [a2 i (by omega), b2 i (by omega), set_getD (by omega), set_getD (by omega), if_neg (by omega), if_neg (by omega)]
    exact key (N + 1) (Nat.le_refl _)
theorem plansL_sorted (x : Ix) : (plansL x).Pairwise fun a b => newerB a b = true := enumS_sorted x.l.length 0 (by omega) _ (planL_len _ _)
theorem okP_right {x : Ix} {gl : List Rng} (hck : checkB x gl = true) {q : List Int} (hq : isPlan x q) : okP x gl (clausesOf x gl) true q = rightB x gl q := by
  unfold okP
  rw [right_eq hck hq, brk_all]
  cases hr : ((faultOf x gl (planOf q x.l.length)).1 == 0) with
  | false => simp
  | true =>
    have := right_keeps hck hq (by rw [right_eq hck hq, hr])
    rw [List.any_eq_false.2 (fun c hc => by rw [this c hc]; simp)]
    rfl
theorem best_pick {x : Ix} {gl : List Rng} (hck : checkB x gl = true) : Pick x (rightB x gl) newerB (isPlan x) (bestR x gl).1 := by
  have hx := (check_parts hck).1
  have hgl := check_goals hck
  rw [bestR_eq hck]
  show Pick x (rightB x gl) newerB (isPlan x) (searchR x gl (clausesOf x gl) true []).1
  rw [search_first hx hgl (fun c hc => there_all hc)]
  cases h : (plansL x).find? (okP x gl (clausesOf x gl) true) with
  | none =>
    rw [List.find?_eq_none] at h
    refine .inl ⟨rfl, fun r hr => ?_⟩
    have := h r (plansL_mem.2 hr)
    rw [okP_right hck hr] at this
    simpa using this
  | some q =>
    obtain ⟨h1, pre, post, h2, h3⟩ := List.find?_eq_some_iff_append.1 h
    have hq : isPlan x q := plansL_mem.1 (by rw [h2]; simp)
    rw [okP_right hck hq] at h1
    refine .inr ⟨hq, hq, h1, fun r hr hor hne => ?_⟩
    have hm : r ∈ plansL x := plansL_mem.2 hr
    rw [h2] at hm
    rcases List.mem_append.1 hm with hm | hm
    · have := h3 r hm
      rw [okP_right hck hr, hor] at this
      cases this
    · rcases List.mem_cons.1 hm with hm | hm
      · exact absurd hm hne
      · have hs := plansL_sorted x
        rw [h2, List.pairwise_append] at hs
        exact (List.pairwise_cons.1 hs.2.1).1 r hm
theorem near_pick {x : Ix} {gl : List Rng} (hck : checkB x gl = true) {hv : List Int} (hh : isPlan x hv) : Pick x (rightB x gl) (closerB hv) (isPlan x) (nearR x gl hv).1 ∧ (nearR x gl hv).2 = if (nearR x gl hv).1 = [] then (0, 5) else ((apartN (nearR x gl hv).1 hv : Int), 0) := by
  have hx := (check_parts hck).1
  have hgl := check_goals hck
  have hvn : hv ≠ [] := plan_ne hx hh
  have key : ∀ (E seen : List (List Int)) (s : List Int × Int), (∀ r ∈ seen, isPlan x r) → (∀ r ∈ E, isPlan x r) → (∀ a ∈ seen, ∀ b ∈ E, newerB a b = true) → E.Pairwise (fun a b => newerB a b = true) →
      Pick x (rightB x gl) (closerB hv) (fun r => r ∈ seen) s.1 → (s.1 ≠ [] → s.2 = (apartN s.1 hv : Int)) →
      Pick x (rightB x gl) (closerB hv) (fun r => r ∈ seen ++ E) (E.foldl (stepO x gl (clausesOf x gl) true hv) s).1 ∧ ((E.foldl (stepO x gl (clausesOf x gl) true hv) s).1 ≠ [] → (E.foldl (stepO x gl (clausesOf x gl) true hv) s).2 = (apartN (E.foldl (stepO x gl (clausesOf x gl) true hv) s).1 hv : Int)) := by
    intro E
    induction E with
    | nil => intro seen s _ _ _ _ h1 h2; rw [List.append_nil]; exact ⟨h1, h2⟩
    | cons q E ih =>
      intro seen s hse hE hnew hpw h1 h2
      have hq := hE q (by simp)
      have hstep : Pick x (rightB x gl) (closerB hv) (fun r => r ∈ seen ++ [q]) (stepO x gl (clausesOf x gl) true hv s q).1 ∧ ((stepO x gl (clausesOf x gl) true hv s q).1 ≠ [] → (stepO x gl (clausesOf x gl) true hv s q).2 = (apartN (stepO x gl (clausesOf x gl) true hv s q).1 hv : Int)) := by
        have hp := pick_step hx (ord_closer x hv) (T := fun r => r ∈ seen ++ [q]) h1 hq hse (fun a => by simp)
        have e : (stepO x gl (clausesOf x gl) true hv s q).1 = (if rightB x gl q = true then (if s.1 = [] ∨ closerB hv q s.1 = true then q else s.1) else s.1) ∧ ((stepO x gl (clausesOf x gl) true hv s q).1 ≠ [] → (stepO x gl (clausesOf x gl) true hv s q).2 = (apartN (stepO x gl (clausesOf x gl) true hv s q).1 hv : Int)) := by
          unfold stepO
          rw [okP_right hck hq, diff_apart hq.1 hh.1]
          cases hr : rightB x gl q with
          | false => exact ⟨by simp, by simpa using h2⟩
          | true =>
            simp only [if_true, Bool.true_and]
            by_cases hs : s.1 = []
            · have hb : Nat.beq s.1.length 0 = true := beq_len.2 hs
              rw [hb]
              simp only [Bool.true_or, if_true]
              rw [if_pos (.inl hs)]
              exact ⟨by first | rfl | trivial, fun _ => by first | rfl | trivial⟩
            · have hb : Nat.beq s.1.length 0 = false := by
                cases h : Nat.beq s.1.length 0 with
                | false => rfl
                | true => exact absurd (beq_len.1 h) hs
              have hfar := h2 hs
              have hmem : s.1 ∈ seen := by
                rcases h1 with ⟨h, _⟩ | ⟨_, h, _⟩
                · exact absurd h hs
                · exact h
              have hnw : newerB s.1 q = true := hnew _ hmem q (by simp)
              rw [hb, hfar]
              simp only [Bool.false_or]
              by_cases hd : apartN q hv < apartN s.1 hv
              · rw [decide_eq_true (by omega)]
                simp only [if_true]
                rw [if_pos (.inr (closer_iff.2 (.inl hd)))]
                exact ⟨by first | rfl | trivial, fun _ => by first | rfl | trivial⟩
              · rw [decide_eq_false (by omega)]
                simp only [Bool.false_eq_true, if_false]
                rw [if_neg (by
                  rintro (h | h)
                  · exact hs h
                  · rcases closer_iff.1 h with h | ⟨_, h⟩
                    · exact hd h
                    · exact newer_asym h hnw)]
                exact ⟨rfl, fun _ => hfar⟩
        rw [e.1]
        exact ⟨hp, by rw [← e.1]; exact e.2⟩
      have := ih (seen ++ [q]) (stepO x gl (clausesOf x gl) true hv s q) (fun r hr => by
          rcases List.mem_append.1 hr with hr | hr
          · exact hse r hr
          · rw [List.mem_singleton] at hr; rw [hr]; exact hq) (fun r hr => hE r (by simp [hr])) (fun a ha b hb => by
          rcases List.mem_append.1 ha with ha | ha
          · exact hnew a ha b (by simp [hb])
          · rw [List.mem_singleton] at ha; rw [ha]; exact (List.pairwise_cons.1 hpw).1 b hb) (List.pairwise_cons.1 hpw).2 hstep.1 hstep.2
      rw [List.append_assoc] at this
      exact this
  obtain ⟨k1, k2⟩ := key (plansL x) [] ([], 0) (fun r hr => (by cases hr)) (fun r hr => plansL_mem.1 hr) (fun a ha => (by cases ha)) (plansL_sorted x) (.inl ⟨rfl, fun r hr => (by cases hr)⟩) (fun h => absurd rfl h)
  rw [← search_fold hx hgl (fun c hc => there_all hc)] at k1 k2
  rw [near_eq hck (isPlan_planned.2 hh)]
  have hS : ∀ r, r ∈ ([] : List (List Int)) ++ plansL x ↔ isPlan x r := fun r => by rw [List.nil_append]; exact plansL_mem
  have k1 : Pick x (rightB x gl) (closerB hv) (isPlan x) (searchR x gl (clausesOf x gl) true hv).1 := by
    rcases k1 with ⟨h1, h2⟩ | ⟨h1, h2, h3, h4⟩
    · exact .inl ⟨h1, fun r hr => h2 r ((hS r).2 hr)⟩
    · exact .inr ⟨h1, h1, h3, fun r hr => h4 r ((hS r).2 hr)⟩
  unfold rnearR
  cases hb : Nat.beq (searchR x gl (clausesOf x gl) true hv).1.length 0 with
  | true =>
    have e := beq_len.1 hb
    simp only [if_true]
    exact ⟨by rw [← e]; exact k1, by simp⟩
  | false =>
    have e : (searchR x gl (clausesOf x gl) true hv).1 ≠ [] := fun e => by rw [beq_len.2 e] at hb; cases hb
    simp only [Bool.false_eq_true, if_false]
    refine ⟨k1, ?_⟩
    rw [if_neg e, k2 e]
theorem law_pick {x : Ix} {gl : List Rng} (hck : checkB x gl = true) {hv : List Int} : Pick x (rightB x gl) newerB (isPlan x) (chosenR x (newF x gl hv) x.l.length ([], []) []).2.1 ∧ Pick x (rightB x gl) (closerB hv) (isPlan x) (chosenR x (newF x gl hv) x.l.length ([], []) []).2.2 := by
  have hx := (check_parts hck).1
  rw [chosen_list]
  have key : ∀ (E seen : List (List Int)) (s : List Int × List Int), (∀ r ∈ seen, isPlan x r) → (∀ r ∈ E, isPlan x r) →
      Pick x (rightB x gl) newerB (fun r => r ∈ seen) s.1 → Pick x (rightB x gl) (closerB hv) (fun r => r ∈ seen) s.2 →
      Pick x (rightB x gl) newerB (fun r => r ∈ seen ++ E) (goG (newF x gl hv) E s).2.1 ∧ Pick x (rightB x gl) (closerB hv) (fun r => r ∈ seen ++ E) (goG (newF x gl hv) E s).2.2 := by
    intro E
    induction E with
    | nil => intro seen s _ _ h1 h2; rw [List.append_nil]; exact ⟨h1, h2⟩
    | cons q E ih =>
      intro seen s hse hE h1 h2
      have hq := hE q (by simp)
      have p1 := pick_step hx (ord_newer x) (T := fun r => r ∈ seen ++ [q]) h1 hq hse (fun a => by simp)
      have p2 := pick_step hx (ord_closer x hv) (T := fun r => r ∈ seen ++ [q]) h2 hq hse (fun a => by simp)
      have hb : ∀ (l c : List Int) (b : Bool), (bif Nat.beq l.length 0 then true else b) = true ↔ l = [] ∨ b = true := fun l c b => by
        cases h : Nat.beq l.length 0 with
        | true => simp [beq_len.1 h]
        | false =>
          have : l ≠ [] := fun e => by rw [beq_len.2 e] at h; cases h
          simp [this]
      have e : (newF x gl hv s q).2 = (if rightB x gl q = true then (if s.1 = [] ∨ newerB q s.1 = true then q else s.1) else s.1, if rightB x gl q = true then (if s.2 = [] ∨ closerB hv q s.2 = true then q else s.2) else s.2) := by
        unfold newF
        rw [right_eq hck hq]
        cases hf : ((faultOf x gl (planOf q x.l.length)).1 == 0) with
        | false =>
          have : ((faultOf x gl (planOf q x.l.length)).1 != 0) = true := by unfold bne; rw [hf]; rfl
          simp [this]
        | true =>
          have : ((faultOf x gl (planOf q x.l.length)).1 != 0) = false := by unfold bne; rw [hf]; rfl
          rw [this]
          simp only [Bool.false_eq_true, if_false, if_true]
          refine Prod.ext ?_ ?_
          · show (if _ then q else s.1) = if _ then q else s.1
            exact ite_iff' (hb s.1 q _)
          · show (if _ then q else s.2) = if _ then q else s.2
            refine ite_iff' ?_
            rw [closer_iff]
            cases h : Nat.beq s.2.length 0 with
            | true => simp [beq_len.1 h]
            | false =>
              have : s.2 ≠ [] := fun e => by rw [beq_len.2 e] at h; cases h
              simp only [this, false_or, cond_false]
              by_cases h1 : apartN q hv < apartN s.2 hv
              · simp [h1]
              · have : ¬ ((apartN q hv : Int) < (apartN s.2 hv : Int)) := by omega
                simp only [this, decide_false, cond_false, h1, false_or]
                by_cases h2 : apartN q hv = apartN s.2 hv
                · simp [h2]
                · have : ((apartN q hv : Int) == (apartN s.2 hv : Int)) = false := by simp; omega
                  simp [this, h2]
      have e2 : goG (newF x gl hv) (q :: E) s = goG (newF x gl hv) E (newF x gl hv s q).2 := rfl
      rw [e2]
      have := ih (seen ++ [q]) (newF x gl hv s q).2 (fun r hr => by
          rcases List.mem_append.1 hr with hr | hr
          · exact hse r hr
          · rw [List.mem_singleton] at hr; rw [hr]; exact hq) (fun r hr => hE r (by simp [hr])) (by rw [e]; exact p1) (by rw [e]; exact p2)
      rw [List.append_assoc] at this
      exact this
  obtain ⟨k1, k2⟩ := key (plansU x) [] ([], []) (fun r hr => (by cases hr)) (fun r hr => plansU_mem.1 hr) (.inl ⟨rfl, fun r hr => (by cases hr)⟩) (.inl ⟨rfl, fun r hr => (by cases hr)⟩)
  have hS : ∀ r, r ∈ ([] : List (List Int)) ++ plansU x ↔ isPlan x r := fun r => by rw [List.nil_append]; exact plansU_mem
  have conv : ∀ (lt : List Int → List Int → Bool) (q : List Int), Pick x (rightB x gl) lt (fun r => r ∈ ([] : List (List Int)) ++ plansU x) q → Pick x (rightB x gl) lt (isPlan x) q := fun lt q h => by
    rcases h with ⟨h1, h2⟩ | ⟨h1, h2, h3, h4⟩
    · exact .inl ⟨h1, fun r hr => h2 r ((hS r).2 hr)⟩
    · exact .inr ⟨h1, h1, h3, fun r hr => h4 r ((hS r).2 hr)⟩
  exact ⟨conv _ _ k1, conv _ _ k2⟩
end Go.Avm.Pack
namespace Go.Avm.Pack
open Go Go.Avm Go.Proofs
open Go.IntKind (i64 u64)
open Go.Avm.AV (int bool any fz fp sl ow ref fn ifc val agg tup)
open Go.Avm.AObj (cells dead)
open Go.Avm.Oc (ret)
set_option maxRecDepth 4000
theorem apart_self {q : List Int} : apartN q q = 0 := by
  unfold apartN
  exact cnt_zero (fun j _ => by simp)
theorem apart_pos {a b : List Int} (h : a.length = b.length) (hne : a ≠ b) : 0 < apartN a b := by
  obtain ⟨t, h1, _, h3⟩ := first_diff h hne
  exact cnt_pos h1 (by simpa using h3)
theorem pick_some {x : Ix} (hx : formedB x = true) {okf : List Int → Bool} {lt : List Int → List Int → Bool} {q : List Int} (h : Pick x okf lt (isPlan x) q) (hq : q ≠ []) : isPlan x q ∧ okf q = true := by
  rcases h with ⟨h1, _⟩ | ⟨h1, _, h3, _⟩
  · exact absurd h1 hq
  · exact ⟨h1, h3⟩
theorem pick_nil {x : Ix} (hx : formedB x = true) {okf : List Int → Bool} {l1 l2 : List Int → List Int → Bool} {q r : List Int} (h : Pick x okf l1 (isPlan x) q) (h' : Pick x okf l2 (isPlan x) r) (hq : q = []) : r = [] := by
  rcases h with ⟨_, h1⟩ | ⟨h1, _⟩
  · rcases h' with ⟨h2, _⟩ | ⟨h2, _, h3, _⟩
    · exact h2
    · rw [h1 r h2] at h3; cases h3
  · exact absurd hq (plan_ne hx h1)
theorem c_PackNewest (R : Res) (x : Ix) (l : KL Rng) (b : KL Int) (hp : List AObj) (g : R.σ) (hby : ∀ v ∈ b.l, 0 ≤ v ∧ v ≤ 255) : Does Try.prog R 8 [encIx x, encR l, encB b] hp g (.ret (.bool true)) hp g := by
  refine does_any' (fun R g => ?_) (by exact ⟨⟨trivial, trivial⟩, ⟨trivial, ⟨trivial, trivial⟩⟩⟩) R hp g
  refine spec_of_wp (nt := 128) (rs := [.tmp 6]) (k0 := 0) (by kernel_rfl) (by kernel_rfl) (by kernel_rfl) rfl ?_
  cases hsm : smallB x 8 with
  | false =>
    refine vcQ [] (lkL [(0, [2, 3, 4]), (1, [2, 3, 4, 36]), (2, [6]), (3, [3, 4, 7]), (4, [3, 4, 7, 8, 9]), (5, [3, 4, 7, 8, 9])]) (lkL [(1, [(1, ROrc.pcall (AV.bool false)), (11, ROrc.pcall (AV.bool (checkB x l.l))), (16, ROrc.pcall (int i64 (plansF x.l 1)))]), (2, [(0, ROrc.pcall (AV.bool true))]), (3, [(2, ROrc.pcall (encI (KL.mk (drawnL x b.l 0) Fz.exa))), (4, ROrc.val (Orc.obj (nth [fz Fz.exa 1 (List.length (drawnL x b.l 0)) fun (i x_1 : Nat) => int i64 (List.getD (drawnL x b.l 0) i 0)])))])]) (fun (Q : AEx → St R.σ → Prop) => 1 ≤ 1 ∧ (∀ (hp : List AObj) (g : R.σ), true = true ∧ Does Try.prog R 9 [encIx x, int i64 8] hp g (ret (AV.bool false)) hp g) ∧ (false = true → 1 ≤ 1) ∧ (false = true → 1 ≤ 1) ∧ (false = true → 1 ≤ 1) ∧ (false = true → ∀ (hp : List AObj) (g : R.σ), true = true ∧ Does Try.prog R 13 [encIx x, encR l] hp g (ret (AV.bool (checkB x l.l))) hp g) ∧ (false = true → 1 ≤ 1) ∧ (false = true → ∀ (hp : List AObj) (g : R.σ), true = true ∧ Does Try.prog R 24 [encIx x] hp g (ret (int i64 (plansF x.l 1))) hp g) ∧ (true = true → (∀ (hp : List AObj) (g : R.σ), true = true ∧ Does Try.prog R 10 [] hp g (ret (AV.bool true)) hp g) ∧ Q AEx.ret (St.mk [(6, AV.bool true)] [cells false 1 (nth [encPacks x]), cells false 1 fun (a : Nat) => encR l] g)) ∧ (true = false → 1 ≤ 1 ∧ (∀ (hp : List AObj) (g : R.σ), true = true ∧ Does Try.prog R 34 [encIx x, fz b.2 1 (List.length b.l) fun (i x : Nat) => int IntKind.u8 (List.getD b.l i 0), int i64 0] hp g (ret (fz Fz.exa 1 (List.length (drawnL x b.l 0)) fun (i x_2 : Nat) => int i64 (List.getD (drawnL x b.l 0) i 0))) hp g) ∧ 1 ≤ 1 ∧ (∀ (c : Nat), c < 1 → nth [fz Fz.exa 1 (List.length (drawnL x b.l 0)) fun (i x_2 : Nat) => int i64 (List.getD (drawnL x b.l 0) i 0)] c = over (fun (a : Nat) => fz Fz.nil 0 0 fun (x x_2 : Nat) => any) 0 1 (fun (x_2 : Nat) => fz Fz.exa 1 (List.length (drawnL x b.l 0)) fun (i x_3 : Nat) => int i64 (List.getD (drawnL x b.l 0) i 0)) c) ∧ False)) (fun _ => by kernel_rfl) ⟨(by omega), ⟨(fun _ _ => ⟨rfl, (does_bool hsm (Go.Avm.Pack.c_Small _ _ _ _ _ (by decide)))⟩), ⟨(by omega), ⟨(by omega), ⟨(by omega), ⟨(fun hgd => (fun _ _ => ⟨rfl, (Go.Avm.Pack.c_fine _ _ _ _ _ (by simp at * <;> omega) (by simp at * <;> omega) (by simp at * <;> omega))⟩)), ⟨(by omega), ⟨(fun hgd => (fun _ _ => ⟨rfl, (Go.Avm.Pack.c_plans _ _ _ _ (by simp at * <;> omega))⟩)), ⟨fun _ => ⟨(fun _ _ => ⟨rfl, (Go.Avm.Pack.c_works _ _ _)⟩), ?_⟩, fun h => (nomatch h)⟩⟩⟩⟩⟩⟩⟩⟩⟩
    refine (retQ_le (retQ_drop _ _ rfl trivial trivial rfl) (Le.refl _))
  | true =>
    obtain ⟨hs, hr⟩ := small_of hsm
    cases hcnd : (bif (bif (bif false then true else decide ((l.l.length : Int) > 9)) then true else !(checkB x l.l)) then true else (plansF x.l 1 == 0)) with
    | true =>
      refine vcQ [] (lkL [(0, [2, 3, 4]), (1, [2, 3, 4, 36]), (2, [6]), (3, [3, 4, 7]), (4, [3, 4, 7, 8, 9]), (5, [3, 4, 7, 8, 9])]) (lkL [(1, [(1, ROrc.pcall (AV.bool true)), (11, ROrc.pcall (AV.bool (checkB x l.l))), (16, ROrc.pcall (int i64 (plansF x.l 1)))]), (2, [(0, ROrc.pcall (AV.bool true))]), (3, [(2, ROrc.pcall (encI (KL.mk (drawnL x b.l 0) Fz.exa))), (4, ROrc.val (Orc.obj (nth [fz Fz.exa 1 (List.length (drawnL x b.l 0)) fun (i x_1 : Nat) => int i64 (List.getD (drawnL x b.l 0) i 0)])))])]) (fun (Q : AEx → St R.σ → Prop) => 1 ≤ 1 ∧ (∀ (hp : List AObj) (g : R.σ), true = true ∧ Does Try.prog R 9 [encIx x, int i64 8] hp g (ret (AV.bool true)) hp g) ∧ (true = true → 1 ≤ 1) ∧ ((!bif false then true else decide ((↑(List.length l.l) : Int) > 9)) = true → 1 ≤ 1) ∧ ((!bif false then true else decide ((↑(List.length l.l) : Int) > 9)) = true → 1 ≤ 1) ∧ ((!bif false then true else decide ((↑(List.length l.l) : Int) > 9)) = true → ∀ (hp : List AObj) (g : R.σ), true = true ∧ Does Try.prog R 13 [encIx x, encR l] hp g (ret (AV.bool (checkB x l.l))) hp g) ∧ ((!bif bif false then true else decide ((↑(List.length l.l) : Int) > 9) then true else !checkB x l.l) = true → 1 ≤ 1) ∧ ((!bif bif false then true else decide ((↑(List.length l.l) : Int) > 9) then true else !checkB x l.l) = true → ∀ (hp : List AObj) (g : R.σ), true = true ∧ Does Try.prog R 24 [encIx x] hp g (ret (int i64 (plansF x.l 1))) hp g) ∧ ((bif bif bif false then true else decide ((↑(List.length l.l) : Int) > 9) then true else !checkB x l.l then true else plansF x.l 1 == 0) = true → (∀ (hp : List AObj) (g : R.σ), true = true ∧ Does Try.prog R 10 [] hp g (ret (AV.bool true)) hp g) ∧ Q AEx.ret (St.mk [(6, AV.bool true)] [cells false 1 (nth [encPacks x]), cells false 1 fun (a : Nat) => encR l] g)) ∧ ((bif bif bif false then true else decide ((↑(List.length l.l) : Int) > 9) then true else !checkB x l.l then true else plansF x.l 1 == 0) = false → 1 ≤ 1 ∧ (∀ (hp : List AObj) (g : R.σ), true = true ∧ Does Try.prog R 34 [encIx x, fz b.2 1 (List.length b.l) fun (i x : Nat) => int IntKind.u8 (List.getD b.l i 0), int i64 0] hp g (ret (fz Fz.exa 1 (List.length (drawnL x b.l 0)) fun (i x_2 : Nat) => int i64 (List.getD (drawnL x b.l 0) i 0))) hp g) ∧ 1 ≤ 1 ∧ (∀ (c : Nat), c < 1 → nth [fz Fz.exa 1 (List.length (drawnL x b.l 0)) fun (i x_2 : Nat) => int i64 (List.getD (drawnL x b.l 0) i 0)] c = over (fun (a : Nat) => fz Fz.nil 0 0 fun (x x_2 : Nat) => any) 0 1 (fun (x_2 : Nat) => fz Fz.exa 1 (List.length (drawnL x b.l 0)) fun (i x_3 : Nat) => int i64 (List.getD (drawnL x b.l 0) i 0)) c) ∧ False)) (fun _ => by kernel_rfl) ⟨(by omega), ⟨(fun _ _ => ⟨rfl, (does_bool hsm (Go.Avm.Pack.c_Small _ _ _ _ _ (by decide)))⟩), ⟨(by omega), ⟨(by omega), ⟨(by omega), ⟨(fun hgd => (fun _ _ => ⟨rfl, (Go.Avm.Pack.c_fine _ _ _ _ _ (by omega) (by omega) (by simp at * <;> omega))⟩)), ⟨(by omega), ⟨(fun hgd => (fun _ _ => ⟨rfl, (Go.Avm.Pack.c_plans _ _ _ _ (by omega))⟩)), ⟨fun _ => ⟨(fun _ _ => ⟨rfl, (Go.Avm.Pack.c_works _ _ _)⟩), ?_⟩, fun hcc => (nomatch (hcnd.symm.trans hcc))⟩⟩⟩⟩⟩⟩⟩⟩⟩
      refine (retQ_le (retQ_drop _ _ rfl trivial trivial rfl) (Le.refl _))
    | false =>
      have hl : l.l.length < 1000000 := by simp at hcnd; omega
      have hck : checkB x l.l = true := by simp at hcnd; exact hcnd.1.2
      have hx := (check_parts hck).1
      have h18 := formed_le hx
      have h8 := h18.2
      have hx1 := h18.1
      have h5 : ∀ i, i < x.l.length → (x.l.getD i default).l.length ≤ 5 := fun i hi => formed_five hx hi
      obtain ⟨hv, hhv⟩ : ∃ h : KL Int, h = ⟨drawnL x b.l 0, .exa⟩ := ⟨_, rfl⟩
      have hplan : isPlan x hv.l := by rw [hhv]; exact drawn_plan hby
      have hvl : hv.l.length = x.l.length := hplan.1
      obtain ⟨lp1, lp2⟩ := law_pick hck (hv := hv.l)
      have bp := best_pick hck
      obtain ⟨np, nf⟩ := near_pick hck hplan
      have hbs := best_some hck
      obtain ⟨S, hS⟩ : ∃ S, (chosenR x (newF x l.l hv.l) x.l.length ([], []) []).2 = S := ⟨_, rfl⟩
      rw [hS] at lp1 lp2
      have e1 : (bestR x l.l).1 = S.1 := pick_unique (ord_newer x) bp lp1
      have e2 : (nearR x l.l hv.l).1 = S.2 := pick_unique (ord_closer x hv.l) np lp2
      have hch : Does Try.prog R 25 [encIx x, .fz .nil 0 0 (fun _ _ => .any), .fn 35 0 (nth []) 5 (nth [.ref 0 0, .ref 1 0, .ref 3 0, .ref 4 0, .ref 2 0])] [.cells false 1 (nth [encPacks x]), .cells false 1 (fun _ => encR l), .cells false 1 (nth [encI hv]), .cells false 1 (fun _ => .fz .nil 0 0 (fun _ _ => .any)), .cells false 1 (fun _ => .fz .nil 0 0 (fun _ _ => .any))] g (.ret (.bool (chosenR x (newF x l.l hv.l) x.l.length ([], []) []).1)) (hpW x l ⟨[], .nil⟩ hv S) g := by
        have h1 := chosen_fn x h8 h5 (fun s : List Int × List Int => (s.1.length = 0 ∨ s.1.length = x.l.length) ∧ (s.2.length = 0 ∨ s.2.length = x.l.length)) (newF x l.l hv.l) R (fun s => hpW x l ⟨[], .nil⟩ hv s) (fun _ => g) (fun _ _ => rfl) (f1 := 35) (na1 := 0) (nb1 := 5) (a1 := nth []) (b1 := nth [.ref 0 0, .ref 1 0, .ref 3 0, .ref 4 0, .ref 2 0]) (by kernel_rfl) (fun s pl hI hpl hin => PackNewest1 R x l ⟨[], .nil⟩ hv s pl g hs hck hpl hin hvl hI) (fun s pl hI hpl _ => newF_I hI hpl) ([], []) ⟨.inl rfl, .inl rfl⟩ (s0 := 0) (z := fun _ _ => .any)
        rw [hS] at h1
        exact does_pre h1 ⟨LeO.rflc, LeO.rflc, LeO.rflc, LeO.box rfl Le.nil_auto, LeO.box rfl Le.nil_auto, trivial⟩
      have len8 : ∀ {lt : List Int → List Int → Bool} {q : List Int}, Pick x (rightB x l.l) lt (isPlan x) q → q.length ≤ 8 := fun h => by
        rcases h with ⟨h1, _⟩ | ⟨h1, _⟩
        · rw [h1]; exact Nat.zero_le _
        · have := h1.1; omega
      have s1 := len8 lp1
      have s2 := len8 lp2
      have s3 := len8 bp
      have s4 := len8 np
      have room : ∀ n, n ≤ 8 → n < 1000000 := fun n h => by omega
      refine vcQ [] (lkL [(0, [2, 3, 4]), (1, [2, 3, 4, 36]), (2, [6]), (3, [3, 4, 7]), (4, [3, 4, 7, 8, 9]), (5, [3, 4, 7, 8, 9]), (6, [3, 4, 7, 8, 9, 10, 11]), (7, [3, 4, 7, 8, 9, 10, 11, 12, 13, 14]), (8, [3, 4, 7, 8, 9, 10, 11, 12, 13, 14, 59]), (9, [6]), (10, [7, 8, 9, 10, 11, 12, 13, 14, 15, 16, 17]), (11, [6])]) (lkL [(1, [(1, ROrc.pcall (AV.bool true)), (11, ROrc.pcall (AV.bool true)), (16, ROrc.pcall (int i64 (plansF x.l 1)))]), (2, [(0, ROrc.pcall (AV.bool true))]), (3, [(2, ROrc.pcall (encI hv)), (4, ROrc.val (Orc.obj (nth [encI hv])))]), (5, [(2, ROrc.call (AV.bool (chosenR x (newF x l.l hv.l) (List.length x.l) ([], []) []).fst) (hpW x l (KL.mk [] Fz.nil) hv S) g)]), (6, [(2, ROrc.pcall (tup 2 (nth [encI (KL.mk (bestR x l.l).fst Fz.auto), int i64 (bestR x l.l).snd])))]), (7, [(3, ROrc.pcall (tup 3 (nth [encI (KL.mk (nearR x l.l hv.l).fst Fz.auto), int i64 (nearR x l.l hv.l).snd.fst, int i64 (nearR x l.l hv.l).snd.snd])))]), (9, [(19, ROrc.pcall (AV.bool true))]), (10, [(3, ROrc.pcall (tup 3 (nth [encI (KL.mk (nearR x l.l (KL.mk S.1 Fz.auto).l).fst Fz.auto), int i64 (nearR x l.l (KL.mk S.1 Fz.auto).l).snd.fst, int i64 (nearR x l.l (KL.mk S.1 Fz.auto).l).snd.snd])))]), (11, [(13, ROrc.pcall (AV.bool (decide ((KL.mk (bestR x l.l).1 Fz.auto).l = (KL.mk S.1 Fz.auto).l)))), (18, ROrc.pcall (AV.bool (decide ((KL.mk (nearR x l.l hv.l).1 Fz.auto).l = (KL.mk S.2 Fz.auto).l)))), (24, ROrc.pcall (int i64 (↑(apartN (KL.mk S.2 Fz.auto).l hv.l) : Int))), (30, ROrc.pcall (AV.bool (decide ((KL.mk (nearR x l.l S.1).1 Fz.auto).l = (KL.mk S.1 Fz.auto).l)))), (37, ROrc.pcall (AV.bool true))])]) (fun (Q : AEx → St R.σ → Prop) => 1 ≤ 1 ∧ (∀ (hp : List AObj) (g : R.σ), true = true ∧ Does Try.prog R 9 [encIx x, int i64 8] hp g (ret (AV.bool true)) hp g) ∧ (true = true → 1 ≤ 1) ∧ ((!bif false then true else decide ((↑(List.length l.l) : Int) > 9)) = true → 1 ≤ 1) ∧ ((!bif false then true else decide ((↑(List.length l.l) : Int) > 9)) = true → 1 ≤ 1) ∧ ((!bif false then true else decide ((↑(List.length l.l) : Int) > 9)) = true → ∀ (hp : List AObj) (g : R.σ), true = true ∧ Does Try.prog R 13 [encIx x, encR l] hp g (ret (AV.bool true)) hp g) ∧ ((!bif bif false then true else decide ((↑(List.length l.l) : Int) > 9) then true else false) = true → 1 ≤ 1) ∧ ((!bif bif false then true else decide ((↑(List.length l.l) : Int) > 9) then true else false) = true → ∀ (hp : List AObj) (g : R.σ), true = true ∧ Does Try.prog R 24 [encIx x] hp g (ret (int i64 (plansF x.l 1))) hp g) ∧ ((bif bif bif false then true else decide ((↑(List.length l.l) : Int) > 9) then true else false then true else plansF x.l 1 == 0) = true → (∀ (hp : List AObj) (g : R.σ), true = true ∧ Does Try.prog R 10 [] hp g (ret (AV.bool true)) hp g) ∧ Q AEx.ret (St.mk [(6, AV.bool true)] [cells false 1 (nth [encPacks x]), cells false 1 fun (a : Nat) => encR l] g)) ∧ ((bif bif bif false then true else decide ((↑(List.length l.l) : Int) > 9) then true else false then true else plansF x.l 1 == 0) = false → 1 ≤ 1 ∧ (∀ (hp : List AObj) (g : R.σ), true = true ∧ Does Try.prog R 34 [encIx x, fz b.2 1 (List.length b.l) fun (i x : Nat) => int IntKind.u8 (List.getD b.l i 0), int i64 0] hp g (ret (encI hv)) hp g) ∧ 1 ≤ 1 ∧ (∀ (c : Nat), c < 1 → nth [encI hv] c = over (fun (a : Nat) => fz Fz.nil 0 0 fun (x x_2 : Nat) => any) 0 1 (fun (x : Nat) => encI hv) c) ∧ 1 ≤ 1 ∧ (true = true ∧ Does Try.prog R 25 [encIx x, fz Fz.nil 0 0 fun (x x_2 : Nat) => any, fn 35 0 (nth []) 5 (nth [ref 0 0, ref 1 0, ref 3 0, ref 4 0, ref 2 0])] [cells false 1 (nth [encPacks x]), cells false 1 fun (a : Nat) => encR l, cells false 1 (nth [encI hv]), cells false 1 fun (a : Nat) => fz Fz.nil 0 0 fun (x x_2 : Nat) => any, cells false 1 fun (a : Nat) => fz Fz.nil 0 0 fun (x x_2 : Nat) => any] g (ret (AV.bool (chosenR x (newF x l.l hv.l) (List.length x.l) ([], []) []).fst)) [cells false 1 (nth [encPacks x]), cells false 1 fun (x : Nat) => encR l, cells false 1 (nth [encI hv]), cells false 1 (nth [fz Fz.auto 1 (List.length S.fst) fun (i x : Nat) => int i64 (List.getD S.fst i 0)]), cells false 1 (nth [fz Fz.auto 1 (List.length S.snd) fun (i x : Nat) => int i64 (List.getD S.snd i 0)])] g) ∧ 1 ≤ 1 ∧ 1 ≤ 1 ∧ (∀ (hp : List AObj) (g : R.σ), true = true ∧ Does Try.prog R 16 [encIx x, encR l] hp g (ret (tup 2 (nth [fz Fz.auto 1 (List.length (bestR x l.l).fst) fun (i x_2 : Nat) => int i64 (List.getD (bestR x l.l).fst i 0), int i64 (bestR x l.l).snd]))) hp g) ∧ 1 ≤ 1 ∧ 1 ≤ 1 ∧ 1 ≤ 1 ∧ (∀ (hp : List AObj) (g : R.σ), true = true ∧ Does Try.prog R 22 [encIx x, encR l, encI hv] hp g (ret (tup 3 (nth [fz Fz.auto 1 (List.length (nearR x l.l hv.l).fst) fun (i x_2 : Nat) => int i64 (List.getD (nearR x l.l hv.l).fst i 0), int i64 (nearR x l.l hv.l).snd.fst, int i64 (nearR x l.l hv.l).snd.snd]))) hp g) ∧ 1 ≤ 1 ∧ (Nat.beq (List.length S.fst) 0 = true → ((bif (bestR x l.l).snd == 5 then (nearR x l.l hv.l).snd.snd == 5 else false) = true → -9223372036854775808 ≤ (↑(List.length (bestR x l.l).fst) : Int) + (↑(List.length (nearR x l.l hv.l).fst) : Int) ∧ (↑(List.length (bestR x l.l).fst) : Int) + (↑(List.length (nearR x l.l hv.l).fst) : Int) ≤ 9223372036854775807) ∧ ((bif bif bif (bestR x l.l).snd == 5 then (nearR x l.l hv.l).snd.snd == 5 else false then (↑(List.length (bestR x l.l).fst) : Int) + (↑(List.length (nearR x l.l hv.l).fst) : Int) == 0 else false then (nearR x l.l hv.l).snd.fst == 0 else false) = true → ∀ (hp : List AObj) (g : R.σ), true = true ∧ Does Try.prog R 10 [] hp g (ret (AV.bool true)) hp g) ∧ Q AEx.ret (St.mk [(6, AV.bool (bif bif bif bif (bestR x l.l).snd == 5 then (nearR x l.l hv.l).snd.snd == 5 else false then (↑(List.length (bestR x l.l).fst) : Int) + (↑(List.length (nearR x l.l hv.l).fst) : Int) == 0 else false then (nearR x l.l hv.l).snd.fst == 0 else false then true else false))] [cells false 1 (nth [encPacks x]), cells false 1 fun (x : Nat) => encR l, cells false 1 (nth [encI hv]), cells false 1 (nth [fz Fz.auto 1 (List.length S.fst) fun (i x : Nat) => int i64 (List.getD S.fst i 0)]), cells false 1 (nth [fz Fz.auto 1 (List.length S.snd) fun (i x : Nat) => int i64 (List.getD S.snd i 0)])] g)) ∧ (Nat.beq (List.length S.fst) 0 = false → 1 ≤ 1 ∧ 1 ≤ 1 ∧ 1 ≤ 1 ∧ (∀ (hp : List AObj) (g : R.σ), true = true ∧ Does Try.prog R 22 [encIx x, encR l, fz Fz.auto 1 (List.length S.fst) fun (i x : Nat) => int i64 (List.getD S.fst i 0)] hp g (ret (tup 3 (nth [fz Fz.auto 1 (List.length (nearR x l.l S.1).fst) fun (i x_3 : Nat) => int i64 (List.getD (nearR x l.l S.1).fst i 0), int i64 (nearR x l.l S.1).snd.fst, int i64 (nearR x l.l S.1).snd.snd]))) hp g) ∧ ((bif bif (bestR x l.l).snd == 0 then (nearR x l.l hv.l).snd.snd == 0 else false then (nearR x l.l S.1).snd.snd == 0 else false) = true → 1 ≤ 1) ∧ ((bif bif (bestR x l.l).snd == 0 then (nearR x l.l hv.l).snd.snd == 0 else false then (nearR x l.l S.1).snd.snd == 0 else false) = true → ∀ (hp : List AObj) (g : R.σ), true = true ∧ Does Try.prog R 39 [fz Fz.auto 1 (List.length (bestR x l.l).fst) fun (i x_3 : Nat) => int i64 (List.getD (bestR x l.l).fst i 0), fz Fz.auto 1 (List.length S.fst) fun (i x : Nat) => int i64 (List.getD S.fst i 0)] hp g (ret (AV.bool (decide ((bestR x l.l).1 = S.1)))) hp g) ∧ ((bif bif bif (bestR x l.l).snd == 0 then (nearR x l.l hv.l).snd.snd == 0 else false then (nearR x l.l S.1).snd.snd == 0 else false then decide ((bestR x l.l).1 = S.1) else false) = true → 1 ≤ 1) ∧ ((bif bif bif (bestR x l.l).snd == 0 then (nearR x l.l hv.l).snd.snd == 0 else false then (nearR x l.l S.1).snd.snd == 0 else false then decide ((bestR x l.l).1 = S.1) else false) = true → ∀ (hp : List AObj) (g : R.σ), true = true ∧ Does Try.prog R 39 [fz Fz.auto 1 (List.length (nearR x l.l hv.l).fst) fun (i x_3 : Nat) => int i64 (List.getD (nearR x l.l hv.l).fst i 0), fz Fz.auto 1 (List.length S.snd) fun (i x : Nat) => int i64 (List.getD S.snd i 0)] hp g (ret (AV.bool (decide ((nearR x l.l hv.l).1 = S.2)))) hp g) ∧ ((bif bif bif bif (bestR x l.l).snd == 0 then (nearR x l.l hv.l).snd.snd == 0 else false then (nearR x l.l S.1).snd.snd == 0 else false then decide ((bestR x l.l).1 = S.1) else false then decide ((nearR x l.l hv.l).1 = S.2) else false) = true → 1 ≤ 1) ∧ ((bif bif bif bif (bestR x l.l).snd == 0 then (nearR x l.l hv.l).snd.snd == 0 else false then (nearR x l.l S.1).snd.snd == 0 else false then decide ((bestR x l.l).1 = S.1) else false then decide ((nearR x l.l hv.l).1 = S.2) else false) = true → 1 ≤ 1) ∧ ((bif bif bif bif (bestR x l.l).snd == 0 then (nearR x l.l hv.l).snd.snd == 0 else false then (nearR x l.l S.1).snd.snd == 0 else false then decide ((bestR x l.l).1 = S.1) else false then decide ((nearR x l.l hv.l).1 = S.2) else false) = true → ∀ (hp : List AObj) (g : R.σ), true = true ∧ Does Try.prog R 38 [fz Fz.auto 1 (List.length S.snd) fun (i x : Nat) => int i64 (List.getD S.snd i 0), encI hv] hp g (ret (int i64 (↑(apartN S.2 hv.l) : Int))) hp g) ∧ ((bif bif bif bif bif (bestR x l.l).snd == 0 then (nearR x l.l hv.l).snd.snd == 0 else false then (nearR x l.l S.1).snd.snd == 0 else false then decide ((bestR x l.l).1 = S.1) else false then decide ((nearR x l.l hv.l).1 = S.2) else false then (nearR x l.l hv.l).snd.fst == (↑(apartN S.2 hv.l) : Int) else false) = true → 1 ≤ 1) ∧ ((bif bif bif bif bif (bestR x l.l).snd == 0 then (nearR x l.l hv.l).snd.snd == 0 else false then (nearR x l.l S.1).snd.snd == 0 else false then decide ((bestR x l.l).1 = S.1) else false then decide ((nearR x l.l hv.l).1 = S.2) else false then (nearR x l.l hv.l).snd.fst == (↑(apartN S.2 hv.l) : Int) else false) = true → ∀ (hp : List AObj) (g : R.σ), true = true ∧ Does Try.prog R 39 [fz Fz.auto 1 (List.length (nearR x l.l S.1).fst) fun (i x_3 : Nat) => int i64 (List.getD (nearR x l.l S.1).fst i 0), fz Fz.auto 1 (List.length S.fst) fun (i x : Nat) => int i64 (List.getD S.fst i 0)] hp g (ret (AV.bool (decide ((nearR x l.l S.1).1 = S.1)))) hp g) ∧ ((bif bif bif bif bif bif bif (bestR x l.l).snd == 0 then (nearR x l.l hv.l).snd.snd == 0 else false then (nearR x l.l S.1).snd.snd == 0 else false then decide ((bestR x l.l).1 = S.1) else false then decide ((nearR x l.l hv.l).1 = S.2) else false then (nearR x l.l hv.l).snd.fst == (↑(apartN S.2 hv.l) : Int) else false then decide ((nearR x l.l S.1).1 = S.1) else false then (nearR x l.l S.1).snd.fst == 0 else false) = true → ∀ (hp : List AObj) (g : R.σ), true = true ∧ Does Try.prog R 10 [] hp g (ret (AV.bool true)) hp g) ∧ Q AEx.ret (St.mk [(6, AV.bool (bif bif bif bif bif bif bif bif (bestR x l.l).snd == 0 then (nearR x l.l hv.l).snd.snd == 0 else false then (nearR x l.l S.1).snd.snd == 0 else false then decide ((bestR x l.l).1 = S.1) else false then decide ((nearR x l.l hv.l).1 = S.2) else false then (nearR x l.l hv.l).snd.fst == (↑(apartN S.2 hv.l) : Int) else false then decide ((nearR x l.l S.1).1 = S.1) else false then (nearR x l.l S.1).snd.fst == 0 else false then true else false))] [cells false 1 (nth [encPacks x]), cells false 1 fun (x : Nat) => encR l, cells false 1 (nth [encI hv]), cells false 1 (nth [fz Fz.auto 1 (List.length S.fst) fun (i x : Nat) => int i64 (List.getD S.fst i 0)]), cells false 1 (nth [fz Fz.auto 1 (List.length S.snd) fun (i x : Nat) => int i64 (List.getD S.snd i 0)])] g)))) (fun _ => by kernel_rfl) ⟨(by omega), ⟨(fun _ _ => ⟨rfl, (does_bool hsm (Go.Avm.Pack.c_Small _ _ _ _ _ (by decide)))⟩), ⟨(by omega), ⟨(by omega), ⟨(by omega), ⟨(fun hgd => (fun _ _ => ⟨rfl, (does_bool hck (Go.Avm.Pack.c_fine _ _ _ _ _ (by omega) (by omega) (by omega)))⟩)), ⟨(by omega), ⟨(fun hgd => (fun _ _ => ⟨rfl, (Go.Avm.Pack.c_plans _ _ _ _ (by omega))⟩)), ⟨fun c1 => have c1 : (false = true ∨ (↑(List.length l.l) : Int) > 9) ∧ true = true ∨ plansF x.l 1 = 0 := ((cO_t c1).imp (fun h => ⟨((cO_t (cA_t h).1).imp (fun h => h) (fun h => (of_decide_eq_true h))), (cA_t h).2⟩) (fun h => (beq_iff_eq.mp h))); ⟨(fun _ _ => ⟨rfl, (Go.Avm.Pack.c_works _ _ _)⟩), ?_⟩, fun c1 => have c1 : (false = false ∧ ¬(↑(List.length l.l) : Int) > 9 ∨ true = false) ∧ ¬plansF x.l 1 = 0 := ⟨((cA_f (cO_f c1).1).imp (fun h => ⟨(cO_f h).1, (of_decide_eq_false (cO_f h).2)⟩) (fun h => h)), (beq_eq_false_iff_ne.mp (cO_f c1).2)⟩; ⟨(by omega), ⟨?_, ⟨(by omega), ⟨(fun c hc => match c, hc with | 0, _ => (by kernel_rfl) ), ⟨(by omega), ⟨⟨rfl, (hch)⟩, ⟨(by omega), ⟨(by omega), ⟨(fun _ _ => ⟨rfl, (Go.Avm.Pack.c_Best _ _ _ _ _ (by omega) (by omega))⟩), ⟨(by omega), ⟨(by omega), ⟨(by omega), ⟨(fun _ _ => ⟨rfl, (Go.Avm.Pack.c_Closest _ _ _ _ _ _ (by omega) (by omega))⟩), ⟨(by omega), ⟨fun c2 => ⟨(by omega), ⟨(fun hgd => (fun _ _ => ⟨rfl, (Go.Avm.Pack.c_works _ _ _)⟩)), ?_⟩⟩, fun c2 => ⟨(by omega), ⟨(by omega), ⟨(by omega), ⟨(fun _ _ => ⟨rfl, (Go.Avm.Pack.c_Closest _ _ _ (KL.mk S.1 Fz.auto) _ _ (by omega) (by omega))⟩), ⟨(by omega), ⟨(fun hgd => (fun _ _ => ⟨rfl, (Go.Avm.Pack.c_EqualI _ (KL.mk (bestR x l.l).1 Fz.auto) (KL.mk S.1 Fz.auto) _ _ ?_)⟩)), ⟨(by omega), ⟨(fun hgd => (fun _ _ => ⟨rfl, (Go.Avm.Pack.c_EqualI _ (KL.mk (nearR x l.l hv.l).1 Fz.auto) (KL.mk S.2 Fz.auto) _ _ ?_)⟩)), ⟨(by omega), ⟨(by omega), ⟨(fun hgd => (fun _ _ => ⟨rfl, (Go.Avm.Pack.c_apart _ (KL.mk S.2 Fz.auto) _ _ _ ?_ ?_)⟩)), ⟨(by omega), ⟨(fun hgd => (fun _ _ => ⟨rfl, (Go.Avm.Pack.c_EqualI _ (KL.mk (nearR x l.l S.1).1 Fz.auto) (KL.mk S.1 Fz.auto) _ _ ?_)⟩)), ⟨(fun hgd => (fun _ _ => ⟨rfl, (Go.Avm.Pack.c_works _ _ _)⟩)), ?_⟩⟩⟩⟩⟩⟩⟩⟩⟩⟩⟩⟩⟩⟩⟩⟩⟩⟩⟩⟩⟩⟩⟩⟩⟩⟩⟩⟩⟩⟩⟩⟩⟩⟩⟩⟩⟩⟩
      · refine (retQ_le (retQ_drop _ _ rfl trivial trivial rfl) (Le.refl _))
      · intro hp g; rw [hhv]; exact ⟨rfl, c_drawn R x b 0 hp g hs hx1 (by decide) hby⟩
      · have z : S.1 = [] := beq_len.1 c2
        have z2 : S.2 = [] := pick_nil hx lp1 lp2 z
        have hno : someRight x l.l = false := by
          cases h : someRight x l.l with
          | false => rfl
          | true =>
            obtain ⟨q, hq, hqr⟩ := (someRight_iff hck).1 h
            rcases lp1 with ⟨_, h1⟩ | ⟨h1, _⟩
            · rw [h1 q hq] at hqr; cases hqr
            · exact absurd z (plan_ne hx h1)
        rw [hno] at hbs
        rw [e2, z2] at nf
        have n1 : (nearR x l.l hv.l).2 = (0, 5) := by rw [nf]; rfl
        refine (retQ_le (retQ_drop _ _ rfl trivial trivial rfl) (Le.of_eq ?_))
        show (AV.bool (bif bif bif bif (bestR x l.l).snd == 5 then (nearR x l.l hv.l).snd.snd == 5 else false then (↑(List.length (bestR x l.l).fst) : Int) + (↑(List.length (nearR x l.l hv.l).fst) : Int) == 0 else false then (nearR x l.l hv.l).snd.fst == 0 else false then true else false)) = _
        rw [hbs, e1, e2, z, z2, n1]
        rfl
      · exact room _ s3
      · exact room _ s4
      · exact room _ s2
      · show S.2.length ≤ hv.l.length
        rcases lp2 with ⟨h1, _⟩ | ⟨h1, _⟩
        · rw [h1]; exact Nat.zero_le _
        · rw [h1.1, hvl]; exact Nat.le_refl _
      · have z : S.1 ≠ [] := fun e => by rw [beq_len.2 e] at c2; cases c2
        exact room _ (len8 (near_pick hck (pick_some hx lp1 z).1).1)
      · have z : S.1 ≠ [] := fun e => by rw [beq_len.2 e] at c2; cases c2
        have z2 : S.2 ≠ [] := fun e => z (pick_nil hx lp2 lp1 e)
        obtain ⟨sp, sr⟩ := pick_some hx lp1 z
        have hyes : someRight x l.l = true := (someRight_iff hck).2 ⟨S.1, sp, sr⟩
        rw [hyes] at hbs
        rw [e2, if_neg z2] at nf
        obtain ⟨qp, qf⟩ := near_pick hck sp
        have self : Pick x (rightB x l.l) (closerB S.1) (isPlan x) S.1 := .inr ⟨sp, sp, sr, fun r hr _ hne => closer_iff.2 (.inl (by rw [apart_self]; exact apart_pos (by rw [hr.1, sp.1]) hne))⟩
        have e3 : (nearR x l.l S.1).1 = S.1 := pick_unique (ord_closer x S.1) qp self
        rw [e3, if_neg z, apart_self] at qf
        refine (retQ_le (retQ_drop _ _ rfl trivial trivial rfl) (Le.of_eq ?_))
        show (AV.bool (bif bif bif bif bif bif bif bif (bestR x l.l).snd == 0 then (nearR x l.l hv.l).snd.snd == 0 else false then (nearR x l.l S.fst).snd.snd == 0 else false then decide ((bestR x l.l).fst = S.fst) else false then decide ((nearR x l.l hv.l).fst = S.snd) else false then (nearR x l.l hv.l).snd.fst == (↑(apartN S.snd hv.l) : Int) else false then decide ((nearR x l.l S.fst).fst = S.fst) else false then (nearR x l.l S.fst).snd.fst == 0 else false then true else false)) = _
        rw [hbs, e1, e2, e3, nf, qf]
        simp
end Go.Avm.Pack
namespace Go.Avm.Pack
open Go Go.Avm Go.Proofs
open Go.IntKind (i64 u64)
open Go.Avm.AV (int bool any fz fp sl ow ref fn ifc val agg tup)
open Go.Avm.AObj (cells dead)
open Go.Avm.Oc (ret)
set_option maxRecDepth 4000
def QB (x : KL Int) : Prop := ∀ v ∈ x.l, 0 ≤ v ∧ v ≤ 255
theorem rea_bytes : Rea Try.prog 61 1 QB (fun x _ => encB x) :=
  Rea.map (rd_slice Try.underlying61 (by kernel_rfl) (by omega) (rd_int Try.underlying5)) klOf (fun x h v hv => by
    have := h.1 v hv
    simp [Lit.wf, IntKind.min, IntKind.max, IntKind.signed, IntKind.bits] at this
    omega) (fun x j hj => rfl)
theorem arg_bytes : Arg Try.prog 61 QB encB := arg_slice Try.underlying61 rea_bytes
end Go.Avm.Pack
namespace Go.Proofs.Ythaoambmnjfdlaa
open Go Go.Avm Go.Avm.Pack Go.WideShapes Go.ChangeShapes
set_option maxRecDepth 100000 in
theorem packNewest_lifted (os : Os) (started : os.Started) (H : Type) (enc : TypeId × Value → H) :
    ReturnsInHanded {} Try.checked os 8 .any (Rows.packNewestSpec.pre6 enc Try.prog Try.f8 Rows.packNewestRow.domain Rows.packNewestRow.apart) (Rows.packNewestSpec.post enc Try.prog Try.f8 Rows.packNewestRow.apart Rows.packNewestRow.fresh Rows.packNewestRow.handsOn Rows.packNewestRow.again) :=
  law_returns (C := Try.checked) (tb := 4) (X := fun l => ∃ a : Ix, True ∧ ∃ l', (∃ b : KL Rng, True ∧ ∃ l'', (∃ c : KL Int, QB c ∧ ∃ l''', (l''' = []) ∧ l'' = encB c :: l''') ∧ l' = encR b :: l'') ∧ l = encIx a :: l') (by kernel_rfl) started (by kernel_rfl) Try.func8
    (ChangeSpec.witness6 (enc := enc) (C := Try.checked) false ⟨#[], #[.agg #[.slice none 0 0], .slice none 0 0, .slice none 0 0], []⟩ 8 (by kernel_rfl) (by kernel_rfl) (by kernel_rfl) (by kernel_rfl))
    rfl (fun ds h => by
      match ds, h with
      | [_, _, _], _ => rfl) (by kernel_rfl)
    (fun t ht => by
      have ht : t ∈ [24, 25, 61] := ht
      simp only [List.mem_cons, List.not_mem_nil, or_false] at ht
      rcases ht with rfl | rfl | rfl <;> exact ⟨by kernel_rfl, of_decide_eq_true (by kernel_rfl)⟩) rfl Try.underlying4
    ((args_cons arg_ix (args_cons arg_rngs (args_cons arg_bytes args_nil))))
    (fun avs ⟨a, ha, _, ⟨b, hb, _, ⟨c, hc, _, e0, e1⟩, e2⟩, e3⟩ => by
      subst e0 e1 e2 e3
      exact c_PackNewest Res.none a b c [] () hc)
theorem packNewest_holds : Rows.PackNewestSaid :=
  OpenClaim.holds_of_wide 8 Try.f8 rfl rfl rfl rfl rfl rfl rfl ⟨rfl, rfl, rfl, rfl, rfl⟩ rfl rfl rfl rfl rfl (by kernel_rfl) Try.func8 (by kernel_rfl)
    (of_decide_eq_true (by kernel_rfl)) (by unfold Func.isWrapper; rw [if_neg (by decide +kernel)]; exact ⟨rfl, rfl⟩)
    (fun os started H enc _ => packNewest_lifted os started H enc)
#print axioms packNewest_holds
end Go.Proofs.Ythaoambmnjfdlaa
