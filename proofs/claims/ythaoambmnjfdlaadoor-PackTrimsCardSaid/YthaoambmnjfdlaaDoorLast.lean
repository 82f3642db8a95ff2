/- PackTrims returns true, and leaves its arguments as they were. No conditions: every input that can be read as data. -/
import Derived.Test.YthaoambmnjfdlaaDoorM4
namespace Go.Avm.Pack
open Go Go.Avm Go.Proofs
open Go.IntKind (i64 u64)
open Go.Avm.AV (int bool any fz fp sl ow ref fn ifc val agg tup)
open Go.Avm.AObj (cells dead)
open Go.Avm.Oc (ret)
set_option maxRecDepth 4000

theorem c_rbars (R : Res) (x : Ix) (i k j n : Int) (hp : List AObj) (g : R.σ) (hx : formedB x = true) (hi : 0 ≤ i ∧ i < x.l.length) (hk : 0 ≤ k ∧ k < ((x.l.getD i.toNat default).l.length : Int)) :
    Does Tryd.prog R 81 [encIx x, .int .i64 i, .int .i64 k, .int .i64 j, .int .i64 n] hp g (.ret (.bool (barsB x i k j n))) hp g := by
  have e := rel_len hx hi hk
  refine does_any' (fun R g => ?_) (by exact ⟨⟨trivial, trivial⟩, ⟨trivial, ⟨trivial, ⟨trivial, ⟨trivial, trivial⟩⟩⟩⟩⟩) R hp g
  refine spec_of_wp (nt := 49) (rs := [.tmp 10]) (k0 := 0) (by kernel_rfl) (by kernel_rfl) (by kernel_rfl) rfl ?_
  refine vcQ [] (lkL [(0, [1, 2, 3, 4, 5]), (1, [3, 4, 11]), (2, [3, 4, 11, 12])]) (fun _ => []) (fun (Q : AEx → St R.σ → Prop) => 1 ≤ 1 ∧ (0 ≤ i ∧ i < (↑(List.length x.l) : Int)) ∧ 1 ≤ 1 ∧ (0 ≤ k ∧ k < (↑(List.length (List.getD x.l (Int.toNat i) default).l) : Int)) ∧ 1 ≤ 1 ∧ Wp Tryd.prog R 49 0 Rd.top (bodyOf Tryd.prog 81) [1, 1, 0, 1, 0] (contQ Tryd.prog R 49 0 Rd.top (bodyOf Tryd.prog 81) Q [Kont.blk 0, Kont.seq [1, 1, 1]]) (St.mk [(3, int i64 j), (4, int i64 n), (11, encR (List.getD (List.getD x.l (Int.toNat i) default).l (Int.toNat k) default).bars), (12, int i64 0)] [cells false 1 (nth [encPacks x])] g)) (fun _ => by kernel_rfl) ⟨(by omega), ⟨(by omega), ⟨(by omega), ⟨(by omega), ⟨(by omega), ?_⟩⟩⟩⟩⟩
  refine (wp_loop (by kernel_rfl) (fun (m : Nat) => ⟨[(3, int i64 j), (4, int i64 n), (11, encR (List.getD (List.getD x.l (Int.toNat i) default).l (Int.toNat k) default).bars), (12, .int .i64 m)], [cells false 1 (nth [encPacks x])], g⟩) (fun (m : Nat) => (m ≤ ((x.l.getD i.toNat default).l.getD k.toNat default).bars.l.length ∧ ∀ q, q < m → (decide ((((x.l.getD i.toNat default).l.getD k.toNat default).bars.l.getD q default).pack = j) && decide ((((x.l.getD i.toNat default).l.getD k.toNat default).bars.l.getD q default).low ≤ n ∧ n ≤ (((x.l.getD i.toNat default).l.getD k.toNat default).bars.l.getD q default).high)) = false)) (fun (m : Nat) => (((x.l.getD i.toNat default).l.getD k.toNat default).bars.l.length - m)) 0 (to_fr ⟨(Le.refl _), ⟨(Le.refl _), ⟨(Le.refl _), ⟨(Le.of_eq (by kernel_rfl)), trivial⟩⟩⟩⟩ rfl rfl) ?_ (fun m hi => ?_))
  · exact ⟨Nat.zero_le _, fun q hq => absurd hq (by omega)⟩
  · obtain ⟨h1, h2⟩ := hi
    refine vcQ [] (lkL [(3, [3, 4, 11, 12, 25]), (5, [3, 4, 11, 12, 48]), (6, [10]), (4, [3, 4, 11, 12])]) (lkL [(5, [(19, ROrc.pcall (AV.bool (decide ((List.getD (List.getD (List.getD x.l (Int.toNat i) default).l (Int.toNat k) default).bars.l m default).low ≤ n ∧ n ≤ (List.getD (List.getD (List.getD x.l (Int.toNat i) default).l (Int.toNat k) default).bars.l m default).high))))])]) (fun (Q : AEx → St R.σ → Prop) => (decide ((↑m : Int) < (↑(List.length (List.getD (List.getD x.l (Int.toNat i) default).l (Int.toNat k) default).bars.l) : Int)) = true → Tables.follows Tryd.prog.toTables Departure.mixedOrders = true ∧ (0 ≤ (↑m : Int) ∧ (↑m : Int) < (↑(List.length (List.getD (List.getD x.l (Int.toNat i) default).l (Int.toNat k) default).bars.l) : Int)) ∧ 1 ≤ 3 ∧ (((List.getD (List.getD (List.getD x.l (Int.toNat i) default).l (Int.toNat k) default).bars.l m default).pack == j) = true → 0 ≤ (↑m : Int) ∧ (↑m : Int) < (↑(List.length (List.getD (List.getD x.l (Int.toNat i) default).l (Int.toNat k) default).bars.l) : Int)) ∧ (((List.getD (List.getD (List.getD x.l (Int.toNat i) default).l (Int.toNat k) default).bars.l m default).pack == j) = true → 1 ≤ 2) ∧ (((List.getD (List.getD (List.getD x.l (Int.toNat i) default).l (Int.toNat k) default).bars.l m default).pack == j) = true → 0 ≤ (↑m : Int) ∧ (↑m : Int) < (↑(List.length (List.getD (List.getD x.l (Int.toNat i) default).l (Int.toNat k) default).bars.l) : Int)) ∧ (((List.getD (List.getD (List.getD x.l (Int.toNat i) default).l (Int.toNat k) default).bars.l m default).pack == j) = true → 1 ≤ 1) ∧ (((List.getD (List.getD (List.getD x.l (Int.toNat i) default).l (Int.toNat k) default).bars.l m default).pack == j) = true → ∀ (hp : List AObj) (g : R.σ), true = true ∧ Does Tryd.prog R 44 [int i64 n, int i64 (List.getD (List.getD (List.getD x.l (Int.toNat i) default).l (Int.toNat k) default).bars.l m default).low, int i64 (List.getD (List.getD (List.getD x.l (Int.toNat i) default).l (Int.toNat k) default).bars.l m default).high] hp g (ret (AV.bool (decide ((List.getD (List.getD (List.getD x.l (Int.toNat i) default).l (Int.toNat k) default).bars.l m default).low ≤ n ∧ n ≤ (List.getD (List.getD (List.getD x.l (Int.toNat i) default).l (Int.toNat k) default).bars.l m default).high)))) hp g) ∧ ((bif (List.getD (List.getD (List.getD x.l (Int.toNat i) default).l (Int.toNat k) default).bars.l m default).pack == j then decide ((List.getD (List.getD (List.getD x.l (Int.toNat i) default).l (Int.toNat k) default).bars.l m default).low ≤ n ∧ n ≤ (List.getD (List.getD (List.getD x.l (Int.toNat i) default).l (Int.toNat k) default).bars.l m default).high) else false) = true → Q AEx.ret (St.mk [(10, AV.bool true)] [cells false 1 (nth [encPacks x])] g)) ∧ ((bif (List.getD (List.getD (List.getD x.l (Int.toNat i) default).l (Int.toNat k) default).bars.l m default).pack == j then decide ((List.getD (List.getD (List.getD x.l (Int.toNat i) default).l (Int.toNat k) default).bars.l m default).low ≤ n ∧ n ≤ (List.getD (List.getD (List.getD x.l (Int.toNat i) default).l (Int.toNat k) default).bars.l m default).high) else false) = false → (-9223372036854775808 ≤ (↑m : Int) + 1 ∧ (↑m : Int) + 1 ≤ 9223372036854775807) ∧ Q AEx.normal (St.mk [(3, int i64 j), (4, int i64 n), (11, encR (List.getD (List.getD x.l (Int.toNat i) default).l (Int.toNat k) default).bars), (12, int i64 ((↑m : Int) + 1))] [cells false 1 (nth [encPacks x])] g))) ∧ (decide ((↑m : Int) < (↑(List.length (List.getD (List.getD x.l (Int.toNat i) default).l (Int.toNat k) default).bars.l) : Int)) = false → Q (AEx.exit 0) (St.mk [(3, int i64 j), (4, int i64 n), (11, encR (List.getD (List.getD x.l (Int.toNat i) default).l (Int.toNat k) default).bars), (12, int i64 (↑m : Int)), (25, AV.bool (decide ((↑m : Int) < (↑(List.length (List.getD (List.getD x.l (Int.toNat i) default).l (Int.toNat k) default).bars.l) : Int))))] [cells false 1 (nth [encPacks x])] g))) (fun _ => by kernel_rfl) ⟨fun c1 => have c1 : (↑m : Int) < (↑(List.length (List.getD (List.getD x.l (Int.toNat i) default).l (Int.toNat k) default).bars.l) : Int) := (of_decide_eq_true c1); ⟨(by kernel_rfl), ⟨(by omega), ⟨(by omega), ⟨(by omega), ⟨(by omega), ⟨(by omega), ⟨(by omega), ⟨(fun hgd => (fun _ _ => ⟨rfl, (Go.Avm.Pack.c_in _ _ _ _ _ _)⟩)), ⟨fun c2 => have c2 : (List.getD (List.getD (List.getD x.l (Int.toNat i) default).l (Int.toNat k) default).bars.l m default).pack = j ∧ (List.getD (List.getD (List.getD x.l (Int.toNat i) default).l (Int.toNat k) default).bars.l m default).low ≤ n ∧ n ≤ (List.getD (List.getD (List.getD x.l (Int.toNat i) default).l (Int.toNat k) default).bars.l m default).high := ⟨(beq_iff_eq.mp (cA_t c2).1), (of_decide_eq_true (cA_t c2).2)⟩; ?_, fun c2 => have c2 : ¬(List.getD (List.getD (List.getD x.l (Int.toNat i) default).l (Int.toNat k) default).bars.l m default).pack = j ∨ ¬((List.getD (List.getD (List.getD x.l (Int.toNat i) default).l (Int.toNat k) default).bars.l m default).low ≤ n ∧ n ≤ (List.getD (List.getD (List.getD x.l (Int.toNat i) default).l (Int.toNat k) default).bars.l m default).high) := ((cA_f c2).imp (fun h => (beq_eq_false_iff_ne.mp h)) (fun h => (of_decide_eq_false h))); ⟨(by omega), ?_⟩⟩⟩⟩⟩⟩⟩⟩⟩⟩, fun c1 => have c1 : ¬(↑m : Int) < (↑(List.length (List.getD (List.getD x.l (Int.toNat i) default).l (Int.toNat k) default).bars.l) : Int) := (of_decide_eq_false c1); ?_⟩
    · refine ⟨_, To.refl _, (retQ_le (retQ_drop _ _ rfl trivial trivial rfl) (Le.of_eq ?_))⟩
      show (AV.bool true) = _
      show AV.bool _ = AV.bool _
      congr 1
      symm
      unfold barsB
      rw [List.any_eq_true]
      refine ⟨_, getD_mem _ (default : Rng) (show m < _ by omega), ?_⟩
      rw [decide_eq_true c2.1, decide_eq_true c2.2]
      rfl
    · refine (next_round (m + 1) (to_fr ⟨(Le.refl _), ⟨(Le.refl _), ⟨(Le.refl _), ⟨(Le.of_eq (by kernel_rfl)), trivial⟩⟩⟩⟩ rfl rfl) ?_ ?_)
      · refine ⟨by omega, fun q hq => ?_⟩
        rcases Nat.lt_or_ge q m with h | h
        · exact h2 q h
        · have : q = m := by omega
          subst this
          rw [Bool.and_eq_false_iff, decide_eq_false_iff_not, decide_eq_false_iff_not]
          exact c2
      · omega
    · refine ⟨_, To.refl _, vcQ [] (lkL [(7, [10])]) (fun _ => []) (fun (Q : AEx → St R.σ → Prop) => Q AEx.ret (St.mk [(10, AV.bool false)] [cells false 1 (nth [encPacks x])] g)) (fun _ => by kernel_rfl) (?_)⟩
      refine (retQ_le (retQ_drop _ _ rfl trivial trivial rfl) (Le.of_eq ?_))
      show (AV.bool false) = _
      show AV.bool _ = AV.bool _
      congr 1
      symm
      unfold barsB
      rw [List.any_eq_false]
      intro r hr
      obtain ⟨q, hq, rfl⟩ := List.getElem_of_mem hr
      have := h2 q (by omega)
      rw [List.getD_eq_getElem?_getD, List.getElem?_eq_getElem hq, Option.getD_some] at this
      rw [this]
      simp
def inO (x : Ix) (L : Nat → Nat) (j : Nat) : AObj := .cells false (x.l.getD j default).l.length (fun c => .bool ((L j).testBit c))
def outC (x : Ix) : Nat → AV := fun c => .sl (2 + c) 0 (x.l.getD c default).l.length (x.l.getD c default).l.length true 1
def hpL (x : Ix) (L : Nat → Nat) (r : List AObj) : List AObj := .cells false 1 (nth [encPacks x]) :: .cells false (x.l.length * 1) (outC x) :: inO x L 0 :: inO x L 1 :: inO x L 2 :: inO x L 3 :: inO x L 4 :: inO x L 5 :: inO x L 6 :: inO x L 7 :: r
theorem getO_hpL {x : Ix} {L : Nat → Nat} {r : List AObj} {j : Nat} (hj : j < 8) : getO (hpL x L r) (2 + j) = inO x L j := by
  match j, hj with
  | 0, _ => rfl
  | 1, _ => rfl
  | 2, _ => rfl
  | 3, _ => rfl
  | 4, _ => rfl
  | 5, _ => rfl
  | 6, _ => rfl
  | 7, _ => rfl
def okB (x : Ix) (L : Nat → Nat) (i k : Int) (r : Rng) (v : Int) : Bool := (L r.pack.toNat).testBit v.toNat && !barsB x i k r.pack v && !barsB x r.pack v i k
theorem need_any {x : Ix} {L : Nat → Nat} {i k : Int} {r : Rng} (hx : formedB x = true) (hL : setsL x L) (hr : rangedB x r = true) :
    (List.range (r.high + 1 - r.low).toNat).any (fun q => okB x L i k r (r.low + q)) = needB x L i k r := by
  have hr := of_decide_eq_true hr
  have h5 := formed_five hx (show r.pack.toNat < x.l.length by omega)
  have hh : r.high < ((x.l.getD r.pack.toNat default).l.length : Int) := hr.2.2.2.2
  rw [Bool.eq_iff_iff, List.any_eq_true]
  unfold needB
  rw [List.any_eq_true]
  unfold okB
  constructor
  · rintro ⟨q, hq, h⟩
    rw [List.mem_range] at hq
    simp only [Bool.and_eq_true, Bool.not_eq_true'] at h
    have e : (((r.low + q).toNat : Nat) : Int) = r.low + q := by omega
    refine ⟨(r.low + q).toNat, mem_memS.2 ⟨by omega, h.1.1⟩, ?_⟩
    rw [e, decide_eq_true (by omega), h.1.2, h.2]
    rfl
  · rintro ⟨n, hn, h⟩
    simp only [Bool.and_eq_true, Bool.not_eq_true', decide_eq_true_eq] at h
    have e : r.low + ((((n : Int) - r.low).toNat : Nat) : Int) = n := by omega
    refine ⟨((n : Int) - r.low).toNat, by rw [List.mem_range]; omega, ?_⟩
    rw [e, Int.toNat_natCast, (mem_memS.1 hn).2, h.1.2, h.2]
    rfl
theorem need_ranged {x : Ix} (hx : formedB x = true) {i n : Nat} (hi : i < x.l.length) (hn : n < (x.l.getD i default).l.length) (r : Rng) (hr : r ∈ ((x.l.getD i default).l.getD n default).needs.l) : rangedB x r = true := by
  have e := formed_rel hx hi hn
  unfold relB at e
  simp only [Bool.and_eq_true] at e
  have := List.all_eq_true.1 e.1.2 r hr
  unfold otherB at this
  simp only [Bool.and_eq_true] at this
  exact this.1
theorem or_picks (o a b c : Bool) : (bif o then true else bif (bif a then !b else false) then !c else false) = (o || (a && !b && !c)) := by
  cases o <;> cases a <;> cases b <;> cases c <;> rfl
theorem c_lacks (R : Res) (x : Ix) (L : Nat → Nat) (i k : Nat) (g : R.σ) (hx : formedB x = true) (hL : setsL x L) (hi : i < x.l.length) (hk : k < (x.l.getD i default).l.length) :
    Does Tryd.prog R 46 [encIx x, .ow true 1 x.l.length 1, .int .i64 i, .int .i64 k] (hpL x L []) g (.ret (.bool (!((x.l.getD i default).l.getD k default).needs.l.all (needB x L i k)))) (hpL x L []) g := by
  have h8 := (formed_le hx).2
  have e := rel_len hx (i := i) (k := k) (by omega) (by rw [Int.toNat_natCast]; omega)
  simp only [Int.toNat_natCast] at e
  have hrg := need_ranged hx hi hk
  refine spec_of_wp (nt := 84) (rs := [.tmp 8]) (k0 := 10) (by kernel_rfl) (by kernel_rfl) (by kernel_rfl) rfl ?_
  refine vcQ [] (lkL [(0, [1, 2, 3, 4]), (1, [1, 2, 3, 4, 9]), (2, [1, 2, 3, 4, 9, 10])]) (fun _ => []) (fun (Q : AEx → St R.σ → Prop) => 1 ≤ 1 ∧ (0 ≤ (↑i : Int) ∧ (↑i : Int) < (↑(List.length x.l) : Int)) ∧ 1 ≤ 1 ∧ (0 ≤ (↑k : Int) ∧ (↑k : Int) < (↑(List.length (List.getD x.l i default).l) : Int)) ∧ 1 ≤ 2 ∧ Wp Tryd.prog R 84 10 Rd.top (bodyOf Tryd.prog 46) [1, 1, 0, 1, 0] (contQ Tryd.prog R 84 10 Rd.top (bodyOf Tryd.prog 46) Q [Kont.blk 0, Kont.seq [1, 1, 1]]) (St.mk [(1, ow true 1 (List.length x.l) 1), (2, int i64 (↑i : Int)), (3, int i64 (↑k : Int)), (4, ref 10 0), (9, encR (List.getD (List.getD x.l i default).l k default).needs), (10, int i64 0)] [cells false 1 (nth [encPacks x]), cells false (List.length x.l * 1) fun (a : Nat) => outC x a, inO x L 0, inO x L 1, inO x L 2, inO x L 3, inO x L 4, inO x L 5, inO x L 6, inO x L 7, cells false 1 (nth [encPacks x])] g)) (fun _ => by kernel_rfl) ⟨(by omega), ⟨(by omega), ⟨(by omega), ⟨(by omega), ⟨(by omega), ?_⟩⟩⟩⟩⟩
  refine (wp_loop (by kernel_rfl) (fun (m : Nat) => ⟨[(1, ow true 1 (List.length x.l) 1), (2, int i64 (↑i : Int)), (3, int i64 (↑k : Int)), (4, ref 10 0), (9, encR (List.getD (List.getD x.l i default).l k default).needs), (10, .int .i64 m)], [cells false 1 (nth [encPacks x]), cells false (List.length x.l * 1) fun (a : Nat) => outC x a, inO x L 0, inO x L 1, inO x L 2, inO x L 3, inO x L 4, inO x L 5, inO x L 6, inO x L 7, cells false 1 (nth [encPacks x])], g⟩) (fun (m : Nat) => (m ≤ ((x.l.getD i default).l.getD k default).needs.l.length ∧ ∀ q, q < m → needB x L i k (((x.l.getD i default).l.getD k default).needs.l.getD q default) = true)) (fun (m : Nat) => (((x.l.getD i default).l.getD k default).needs.l.length - m)) 0 (to_fr ⟨(Le.refl _), ⟨(Le.refl _), ⟨(Le.refl _), ⟨(Le.refl _), ⟨(Le.refl _), ⟨(Le.of_eq (by kernel_rfl)), trivial⟩⟩⟩⟩⟩⟩ rfl rfl) ?_ (fun m hi => ?_))
  · exact ⟨Nat.zero_le _, fun q hq => absurd hq (by omega)⟩
  · obtain ⟨h1, h2⟩ := hi
    refine vcQ [] (lkL [(3, [1, 2, 3, 4, 9, 10, 25]), (5, [1, 2, 3, 4, 9, 10, 11]), (6, [1, 2, 3, 4, 9, 10, 11, 12])]) (fun _ => []) (fun (Q : AEx → St R.σ → Prop) => (decide ((↑m : Int) < (↑(List.length (List.getD (List.getD x.l i default).l k default).needs.l) : Int)) = true → (0 ≤ (↑m : Int) ∧ (↑m : Int) < (↑(List.length (List.getD (List.getD x.l i default).l k default).needs.l) : Int)) ∧ 1 ≤ 2 ∧ Wp Tryd.prog R 84 10 Rd.top (bodyOf Tryd.prog 46) [1, 1, 0, 1, 0, 0, 1, 0, 0, 1, 0, 1, 0] (contQ Tryd.prog R 84 10 Rd.top (bodyOf Tryd.prog 46) Q [Kont.blk 2, Kont.seq [1, 1, 0, 1, 0, 0, 1, 0, 0, 1, 1], Kont.blk 1, Kont.seq [1, 1, 0, 1, 0, 0, 1, 1]]) (St.mk [(1, ow true 1 (List.length x.l) 1), (2, int i64 (↑i : Int)), (3, int i64 (↑k : Int)), (4, ref 10 0), (9, encR (List.getD (List.getD x.l i default).l k default).needs), (10, int i64 (↑m : Int)), (11, AV.bool false), (12, int i64 (List.getD (List.getD (List.getD x.l i default).l k default).needs.l m default).low)] [cells false 1 (nth [encPacks x]), cells false (List.length x.l * 1) fun (a : Nat) => outC x a, inO x L 0, inO x L 1, inO x L 2, inO x L 3, inO x L 4, inO x L 5, inO x L 6, inO x L 7, cells false 1 (nth [encPacks x])] g)) ∧ (decide ((↑m : Int) < (↑(List.length (List.getD (List.getD x.l i default).l k default).needs.l) : Int)) = false → Q (AEx.exit 0) (St.mk [(1, ow true 1 (List.length x.l) 1), (2, int i64 (↑i : Int)), (3, int i64 (↑k : Int)), (4, ref 10 0), (9, encR (List.getD (List.getD x.l i default).l k default).needs), (10, int i64 (↑m : Int)), (25, AV.bool (decide ((↑m : Int) < (↑(List.length (List.getD (List.getD x.l i default).l k default).needs.l) : Int))))] [cells false 1 (nth [encPacks x]), cells false (List.length x.l * 1) fun (a : Nat) => outC x a, inO x L 0, inO x L 1, inO x L 2, inO x L 3, inO x L 4, inO x L 5, inO x L 6, inO x L 7, cells false 1 (nth [encPacks x])] g))) (fun _ => by kernel_rfl) ⟨fun c1 => have c1 : (↑m : Int) < (↑(List.length (List.getD (List.getD x.l i default).l k default).needs.l) : Int) := (of_decide_eq_true c1); ⟨(by omega), ⟨(by omega), ?_⟩⟩, fun c1 => have c1 : ¬(↑m : Int) < (↑(List.length (List.getD (List.getD x.l i default).l k default).needs.l) : Int) := (of_decide_eq_false c1); ?_⟩
    · have hrm := hrg _ (getD_mem _ (default : Rng) (show m < _ by omega))
      have hrp := ranged_pack hrm
      have hany := need_any (i := i) (k := k) hx hL hrm
      have hrm' := of_decide_eq_true hrm
      have hrh : (((x.l.getD i default).l.getD k default).needs.l.getD m default).high < ((x.l.getD (((x.l.getD i default).l.getD k default).needs.l.getD m default).pack.toNat default).l.length : Int) := hrm'.2.2.2.2
      have h5 := formed_five hx (show (((x.l.getD i default).l.getD k default).needs.l.getD m default).pack.toNat < x.l.length by omega)
      have hj8 : (((x.l.getD i default).l.getD k default).needs.l.getD m default).pack.toNat < 8 := by omega
      refine (wp_loop (by kernel_rfl) (fun (t : Nat) => ⟨[(1, ow true 1 (List.length x.l) 1), (2, int i64 (↑i : Int)), (3, int i64 (↑k : Int)), (4, ref 10 0), (9, encR (List.getD (List.getD x.l i default).l k default).needs), (10, int i64 (↑m : Int)), (11, .bool ((List.range t).any fun q => okB x L i k (((x.l.getD i default).l.getD k default).needs.l.getD m default) ((((x.l.getD i default).l.getD k default).needs.l.getD m default).low + q))), (12, .int .i64 ((((x.l.getD i default).l.getD k default).needs.l.getD m default).low + t))], [cells false 1 (nth [encPacks x]), cells false (List.length x.l * 1) fun (a : Nat) => outC x a, inO x L 0, inO x L 1, inO x L 2, inO x L 3, inO x L 4, inO x L 5, inO x L 6, inO x L 7, cells false 1 (nth [encPacks x])], g⟩) (fun (t : Nat) => (t ≤ ((((x.l.getD i default).l.getD k default).needs.l.getD m default).high + 1 - (((x.l.getD i default).l.getD k default).needs.l.getD m default).low).toNat)) (fun (t : Nat) => (((((x.l.getD i default).l.getD k default).needs.l.getD m default).high + 1 - (((x.l.getD i default).l.getD k default).needs.l.getD m default).low).toNat - t)) 0 (to_fr ⟨(Le.refl _), ⟨(Le.refl _), ⟨(Le.refl _), ⟨(Le.refl _), ⟨(Le.refl _), ⟨(Le.refl _), ⟨(Le.refl _), ⟨(Le.of_eq ?_), trivial⟩⟩⟩⟩⟩⟩⟩⟩ rfl rfl) ?_ (fun t hi => ?_))
      · show AV.int .i64 _ = AV.int .i64 _
        congr 1
        omega
      · omega
      · refine vcQ [] (lkL [(7, [1, 2, 3, 4, 9, 10, 11, 12, 39]), (9, [1, 2, 3, 4, 9, 10, 11, 12]), (8, [1, 2, 3, 4, 9, 10, 11, 12])]) (lkL [(9, [(12, ROrc.kop (AV.bool (Nat.testBit (L (Int.toNat (List.getD (List.getD (List.getD x.l i default).l k default).needs.l m default).pack)) (Int.toNat ((List.getD (List.getD (List.getD x.l i default).l k default).needs.l m default).low + (↑t : Int)))))), (23, ROrc.pcall (AV.bool (barsB x (↑i : Int) (↑k : Int) (List.getD (List.getD (List.getD x.l i default).l k default).needs.l m default).pack ((List.getD (List.getD (List.getD x.l i default).l k default).needs.l m default).low + (↑t : Int))))), (36, ROrc.pcall (AV.bool (barsB x (List.getD (List.getD (List.getD x.l i default).l k default).needs.l m default).pack ((List.getD (List.getD (List.getD x.l i default).l k default).needs.l m default).low + (↑t : Int)) (↑i : Int) (↑k : Int))))])]) (fun (Q : AEx → St R.σ → Prop) => (0 ≤ (↑m : Int) ∧ (↑m : Int) < (↑(List.length (List.getD (List.getD x.l i default).l k default).needs.l) : Int)) ∧ 1 ≤ 1 ∧ (decide ((List.getD (List.getD (List.getD x.l i default).l k default).needs.l m default).low + (↑t : Int) ≤ (List.getD (List.getD (List.getD x.l i default).l k default).needs.l m default).high) = true → Tables.follows Tryd.prog.toTables Departure.mixedOrders = true ∧ ((!List.any (List.range t) fun (q : Nat) => okB x L (↑i : Int) (↑k : Int) (List.getD (List.getD (List.getD x.l i default).l k default).needs.l m default) ((List.getD (List.getD (List.getD x.l i default).l k default).needs.l m default).low + (↑q : Int))) = true → 0 ≤ (↑m : Int) ∧ (↑m : Int) < (↑(List.length (List.getD (List.getD x.l i default).l k default).needs.l) : Int)) ∧ ((!List.any (List.range t) fun (q : Nat) => okB x L (↑i : Int) (↑k : Int) (List.getD (List.getD (List.getD x.l i default).l k default).needs.l m default) ((List.getD (List.getD (List.getD x.l i default).l k default).needs.l m default).low + (↑q : Int))) = true → 1 ≤ 3) ∧ ((!List.any (List.range t) fun (q : Nat) => okB x L (↑i : Int) (↑k : Int) (List.getD (List.getD (List.getD x.l i default).l k default).needs.l m default) ((List.getD (List.getD (List.getD x.l i default).l k default).needs.l m default).low + (↑q : Int))) = true → 0 ≤ (List.getD (List.getD (List.getD x.l i default).l k default).needs.l m default).pack ∧ (List.getD (List.getD (List.getD x.l i default).l k default).needs.l m default).pack < (↑(List.length x.l) : Int)) ∧ ((!List.any (List.range t) fun (q : Nat) => okB x L (↑i : Int) (↑k : Int) (List.getD (List.getD (List.getD x.l i default).l k default).needs.l m default) ((List.getD (List.getD (List.getD x.l i default).l k default).needs.l m default).low + (↑q : Int))) = true → Int.toNat (List.getD (List.getD (List.getD x.l i default).l k default).needs.l m default).pack + 1 ≤ List.length x.l * 1) ∧ ((!List.any (List.range t) fun (q : Nat) => okB x L (↑i : Int) (↑k : Int) (List.getD (List.getD (List.getD x.l i default).l k default).needs.l m default) ((List.getD (List.getD (List.getD x.l i default).l k default).needs.l m default).low + (↑q : Int))) = true → 0 ≤ (List.getD (List.getD (List.getD x.l i default).l k default).needs.l m default).low + (↑t : Int) ∧ (List.getD (List.getD (List.getD x.l i default).l k default).needs.l m default).low + (↑t : Int) < (↑(List.length (List.getD x.l (Int.toNat (List.getD (List.getD (List.getD x.l i default).l k default).needs.l m default).pack) default).l) : Int)) ∧ ((!List.any (List.range t) fun (q : Nat) => okB x L (↑i : Int) (↑k : Int) (List.getD (List.getD (List.getD x.l i default).l k default).needs.l m default) ((List.getD (List.getD (List.getD x.l i default).l k default).needs.l m default).low + (↑q : Int))) = true → OpOk Tryd.prog R (Oper.mk (some 54) (Op.load 4 (Operand.tmp 53)) 4 "ref.go:134" #[Edge.mk 11 Ground.data, Edge.mk 1 Ground.guard] (some (1, false))) (evO [Row.mk (some 53) (some (1, false)) (ref (2 + Int.toNat (List.getD (List.getD (List.getD x.l i default).l k default).needs.l m default).pack) (Int.toNat ((List.getD (List.getD (List.getD x.l i default).l k default).needs.l m default).low + (↑t : Int)))) false (some []) [], Row.mk (some 52) (some (1, false)) (int i64 ((List.getD (List.getD (List.getD x.l i default).l k default).needs.l m default).low + (↑t : Int))) false (some []) [], Row.mk (some 51) (some (1, false)) (outC x (Int.toNat (List.getD (List.getD (List.getD x.l i default).l k default).needs.l m default).pack)) false (some []) [1], Row.mk (some 50) (some (1, false)) (ref 1 (Int.toNat (List.getD (List.getD (List.getD x.l i default).l k default).needs.l m default).pack)) false (some []) [], Row.mk (some 49) (some (1, false)) (int i64 (List.getD (List.getD (List.getD x.l i default).l k default).needs.l m default).pack) false (some []) [], Row.mk (some 48) (some (1, false)) (fp 3 fun (j : Nat) => rngC (List.getD (List.getD (List.getD x.l i default).l k default).needs.l m default) j) false (some []) [], Row.mk (some 47) (some (1, false)) (fp 3 (rngC (List.getD (List.getD (List.getD x.l i default).l k default).needs.l m default))) false (some []) [], Row.mk (some 46) (some (1, false)) (int i64 (↑m : Int)) false (some []) [], Row.mk (some 45) (some (1, false)) (encR (List.getD (List.getD x.l i default).l k default).needs) false (some []) [], Row.mk (some 44) (some (1, false)) (ow true 1 (List.length x.l) 1) false (some []) [], Row.mk (some 43) none (AV.bool (List.any (List.range t) fun (q : Nat) => okB x L (↑i : Int) (↑k : Int) (List.getD (List.getD (List.getD x.l i default).l k default).needs.l m default) ((List.getD (List.getD (List.getD x.l i default).l k default).needs.l m default).low + (↑q : Int)))) false (some []) [], Row.mk (some 42) none (AV.bool (List.any (List.range t) fun (q : Nat) => okB x L (↑i : Int) (↑k : Int) (List.getD (List.getD (List.getD x.l i default).l k default).needs.l m default) ((List.getD (List.getD (List.getD x.l i default).l k default).needs.l m default).low + (↑q : Int)))) false (some []) []] [(1, ow true 1 (List.length x.l) 1), (2, int i64 (↑i : Int)), (3, int i64 (↑k : Int)), (4, ref 10 0), (9, encR (List.getD (List.getD x.l i default).l k default).needs), (10, int i64 (↑m : Int)), (11, AV.bool (List.any (List.range t) fun (q : Nat) => okB x L (↑i : Int) (↑k : Int) (List.getD (List.getD (List.getD x.l i default).l k default).needs.l m default) ((List.getD (List.getD (List.getD x.l i default).l k default).needs.l m default).low + (↑q : Int)))), (12, int i64 ((List.getD (List.getD (List.getD x.l i default).l k default).needs.l m default).low + (↑t : Int))), (39, AV.bool (decide ((List.getD (List.getD (List.getD x.l i default).l k default).needs.l m default).low + (↑t : Int) ≤ (List.getD (List.getD (List.getD x.l i default).l k default).needs.l m default).high)))] [(1, false)]) [cells false 1 (nth [encPacks x]), cells false (List.length x.l * 1) fun (a : Nat) => outC x a, inO x L 0, inO x L 1, inO x L 2, inO x L 3, inO x L 4, inO x L 5, inO x L 6, inO x L 7, cells false 1 (nth [encPacks x])] g (AV.bool (Nat.testBit (L (Int.toNat (List.getD (List.getD (List.getD x.l i default).l k default).needs.l m default).pack)) (Int.toNat ((List.getD (List.getD (List.getD x.l i default).l k default).needs.l m default).low + (↑t : Int))))) [cells false 1 (nth [encPacks x]), cells false (List.length x.l * 1) fun (a : Nat) => outC x a, inO x L 0, inO x L 1, inO x L 2, inO x L 3, inO x L 4, inO x L 5, inO x L 6, inO x L 7, cells false 1 (nth [encPacks x])] g) ∧ (((!List.any (List.range t) fun (q : Nat) => okB x L (↑i : Int) (↑k : Int) (List.getD (List.getD (List.getD x.l i default).l k default).needs.l m default) ((List.getD (List.getD (List.getD x.l i default).l k default).needs.l m default).low + (↑q : Int))) && Nat.testBit (L (Int.toNat (List.getD (List.getD (List.getD x.l i default).l k default).needs.l m default).pack)) (Int.toNat ((List.getD (List.getD (List.getD x.l i default).l k default).needs.l m default).low + (↑t : Int)))) = true → 1 ≤ 1) ∧ (((!List.any (List.range t) fun (q : Nat) => okB x L (↑i : Int) (↑k : Int) (List.getD (List.getD (List.getD x.l i default).l k default).needs.l m default) ((List.getD (List.getD (List.getD x.l i default).l k default).needs.l m default).low + (↑q : Int))) && Nat.testBit (L (Int.toNat (List.getD (List.getD (List.getD x.l i default).l k default).needs.l m default).pack)) (Int.toNat ((List.getD (List.getD (List.getD x.l i default).l k default).needs.l m default).low + (↑t : Int)))) = true → 0 ≤ (↑m : Int) ∧ (↑m : Int) < (↑(List.length (List.getD (List.getD x.l i default).l k default).needs.l) : Int)) ∧ (((!List.any (List.range t) fun (q : Nat) => okB x L (↑i : Int) (↑k : Int) (List.getD (List.getD (List.getD x.l i default).l k default).needs.l m default) ((List.getD (List.getD (List.getD x.l i default).l k default).needs.l m default).low + (↑q : Int))) && Nat.testBit (L (Int.toNat (List.getD (List.getD (List.getD x.l i default).l k default).needs.l m default).pack)) (Int.toNat ((List.getD (List.getD (List.getD x.l i default).l k default).needs.l m default).low + (↑t : Int)))) = true → 1 ≤ 3) ∧ (((!List.any (List.range t) fun (q : Nat) => okB x L (↑i : Int) (↑k : Int) (List.getD (List.getD (List.getD x.l i default).l k default).needs.l m default) ((List.getD (List.getD (List.getD x.l i default).l k default).needs.l m default).low + (↑q : Int))) && Nat.testBit (L (Int.toNat (List.getD (List.getD (List.getD x.l i default).l k default).needs.l m default).pack)) (Int.toNat ((List.getD (List.getD (List.getD x.l i default).l k default).needs.l m default).low + (↑t : Int)))) = true → ∀ (hp : List AObj) (g : R.σ), true = true ∧ Does Tryd.prog R 81 [encIx x, int i64 (↑i : Int), int i64 (↑k : Int), int i64 (List.getD (List.getD (List.getD x.l i default).l k default).needs.l m default).pack, int i64 ((List.getD (List.getD (List.getD x.l i default).l k default).needs.l m default).low + (↑t : Int))] hp g (ret (AV.bool (barsB x (↑i : Int) (↑k : Int) (List.getD (List.getD (List.getD x.l i default).l k default).needs.l m default).pack ((List.getD (List.getD (List.getD x.l i default).l k default).needs.l m default).low + (↑t : Int))))) hp g) ∧ (((!List.any (List.range t) fun (q : Nat) => okB x L (↑i : Int) (↑k : Int) (List.getD (List.getD (List.getD x.l i default).l k default).needs.l m default) ((List.getD (List.getD (List.getD x.l i default).l k default).needs.l m default).low + (↑q : Int))) && bif Nat.testBit (L (Int.toNat (List.getD (List.getD (List.getD x.l i default).l k default).needs.l m default).pack)) (Int.toNat ((List.getD (List.getD (List.getD x.l i default).l k default).needs.l m default).low + (↑t : Int))) then !barsB x (↑i : Int) (↑k : Int) (List.getD (List.getD (List.getD x.l i default).l k default).needs.l m default).pack ((List.getD (List.getD (List.getD x.l i default).l k default).needs.l m default).low + (↑t : Int)) else false) = true → 1 ≤ 1) ∧ (((!List.any (List.range t) fun (q : Nat) => okB x L (↑i : Int) (↑k : Int) (List.getD (List.getD (List.getD x.l i default).l k default).needs.l m default) ((List.getD (List.getD (List.getD x.l i default).l k default).needs.l m default).low + (↑q : Int))) && bif Nat.testBit (L (Int.toNat (List.getD (List.getD (List.getD x.l i default).l k default).needs.l m default).pack)) (Int.toNat ((List.getD (List.getD (List.getD x.l i default).l k default).needs.l m default).low + (↑t : Int))) then !barsB x (↑i : Int) (↑k : Int) (List.getD (List.getD (List.getD x.l i default).l k default).needs.l m default).pack ((List.getD (List.getD (List.getD x.l i default).l k default).needs.l m default).low + (↑t : Int)) else false) = true → 0 ≤ (↑m : Int) ∧ (↑m : Int) < (↑(List.length (List.getD (List.getD x.l i default).l k default).needs.l) : Int)) ∧ (((!List.any (List.range t) fun (q : Nat) => okB x L (↑i : Int) (↑k : Int) (List.getD (List.getD (List.getD x.l i default).l k default).needs.l m default) ((List.getD (List.getD (List.getD x.l i default).l k default).needs.l m default).low + (↑q : Int))) && bif Nat.testBit (L (Int.toNat (List.getD (List.getD (List.getD x.l i default).l k default).needs.l m default).pack)) (Int.toNat ((List.getD (List.getD (List.getD x.l i default).l k default).needs.l m default).low + (↑t : Int))) then !barsB x (↑i : Int) (↑k : Int) (List.getD (List.getD (List.getD x.l i default).l k default).needs.l m default).pack ((List.getD (List.getD (List.getD x.l i default).l k default).needs.l m default).low + (↑t : Int)) else false) = true → 1 ≤ 3) ∧ (((!List.any (List.range t) fun (q : Nat) => okB x L (↑i : Int) (↑k : Int) (List.getD (List.getD (List.getD x.l i default).l k default).needs.l m default) ((List.getD (List.getD (List.getD x.l i default).l k default).needs.l m default).low + (↑q : Int))) && bif Nat.testBit (L (Int.toNat (List.getD (List.getD (List.getD x.l i default).l k default).needs.l m default).pack)) (Int.toNat ((List.getD (List.getD (List.getD x.l i default).l k default).needs.l m default).low + (↑t : Int))) then !barsB x (↑i : Int) (↑k : Int) (List.getD (List.getD (List.getD x.l i default).l k default).needs.l m default).pack ((List.getD (List.getD (List.getD x.l i default).l k default).needs.l m default).low + (↑t : Int)) else false) = true → ∀ (hp : List AObj) (g : R.σ), true = true ∧ Does Tryd.prog R 81 [encIx x, int i64 (List.getD (List.getD (List.getD x.l i default).l k default).needs.l m default).pack, int i64 ((List.getD (List.getD (List.getD x.l i default).l k default).needs.l m default).low + (↑t : Int)), int i64 (↑i : Int), int i64 (↑k : Int)] hp g (ret (AV.bool (barsB x (List.getD (List.getD (List.getD x.l i default).l k default).needs.l m default).pack ((List.getD (List.getD (List.getD x.l i default).l k default).needs.l m default).low + (↑t : Int)) (↑i : Int) (↑k : Int)))) hp g) ∧ (-9223372036854775808 ≤ (List.getD (List.getD (List.getD x.l i default).l k default).needs.l m default).low + (↑t : Int) + 1 ∧ (List.getD (List.getD (List.getD x.l i default).l k default).needs.l m default).low + (↑t : Int) + 1 ≤ 9223372036854775807) ∧ Q AEx.normal (St.mk [(1, ow true 1 (List.length x.l) 1), (2, int i64 (↑i : Int)), (3, int i64 (↑k : Int)), (4, ref 10 0), (9, encR (List.getD (List.getD x.l i default).l k default).needs), (10, int i64 (↑m : Int)), (11, AV.bool (bif List.any (List.range t) fun (q : Nat) => okB x L (↑i : Int) (↑k : Int) (List.getD (List.getD (List.getD x.l i default).l k default).needs.l m default) ((List.getD (List.getD (List.getD x.l i default).l k default).needs.l m default).low + (↑q : Int)) then true else bif bif Nat.testBit (L (Int.toNat (List.getD (List.getD (List.getD x.l i default).l k default).needs.l m default).pack)) (Int.toNat ((List.getD (List.getD (List.getD x.l i default).l k default).needs.l m default).low + (↑t : Int))) then !barsB x (↑i : Int) (↑k : Int) (List.getD (List.getD (List.getD x.l i default).l k default).needs.l m default).pack ((List.getD (List.getD (List.getD x.l i default).l k default).needs.l m default).low + (↑t : Int)) else false then !barsB x (List.getD (List.getD (List.getD x.l i default).l k default).needs.l m default).pack ((List.getD (List.getD (List.getD x.l i default).l k default).needs.l m default).low + (↑t : Int)) (↑i : Int) (↑k : Int) else false)), (12, int i64 ((List.getD (List.getD (List.getD x.l i default).l k default).needs.l m default).low + (↑t : Int) + 1))] [cells false 1 (nth [encPacks x]), cells false (List.length x.l * 1) fun (a : Nat) => outC x a, inO x L 0, inO x L 1, inO x L 2, inO x L 3, inO x L 4, inO x L 5, inO x L 6, inO x L 7, cells false 1 (nth [encPacks x])] g)) ∧ (decide ((List.getD (List.getD (List.getD x.l i default).l k default).needs.l m default).low + (↑t : Int) ≤ (List.getD (List.getD (List.getD x.l i default).l k default).needs.l m default).high) = false → Q (AEx.exit 2) (St.mk [(1, ow true 1 (List.length x.l) 1), (2, int i64 (↑i : Int)), (3, int i64 (↑k : Int)), (4, ref 10 0), (9, encR (List.getD (List.getD x.l i default).l k default).needs), (10, int i64 (↑m : Int)), (11, AV.bool (List.any (List.range t) fun (q : Nat) => okB x L (↑i : Int) (↑k : Int) (List.getD (List.getD (List.getD x.l i default).l k default).needs.l m default) ((List.getD (List.getD (List.getD x.l i default).l k default).needs.l m default).low + (↑q : Int)))), (12, int i64 ((List.getD (List.getD (List.getD x.l i default).l k default).needs.l m default).low + (↑t : Int))), (39, AV.bool (decide ((List.getD (List.getD (List.getD x.l i default).l k default).needs.l m default).low + (↑t : Int) ≤ (List.getD (List.getD (List.getD x.l i default).l k default).needs.l m default).high)))] [cells false 1 (nth [encPacks x]), cells false (List.length x.l * 1) fun (a : Nat) => outC x a, inO x L 0, inO x L 1, inO x L 2, inO x L 3, inO x L 4, inO x L 5, inO x L 6, inO x L 7, cells false 1 (nth [encPacks x])] g))) (fun _ => by kernel_rfl) ⟨(by omega), ⟨(by omega), ⟨fun c1 => have c1 : (List.getD (List.getD (List.getD x.l i default).l k default).needs.l m default).low + (↑t : Int) ≤ (List.getD (List.getD (List.getD x.l i default).l k default).needs.l m default).high := (of_decide_eq_true c1); ⟨(by kernel_rfl), ⟨(by omega), ⟨(by omega), ⟨(by omega), ⟨(by omega), ⟨(by omega), ⟨?_, ⟨(by omega), ⟨(by omega), ⟨(by omega), ⟨(fun hgd => (fun _ _ => ⟨rfl, (Go.Avm.Pack.c_rbars _ _ _ _ _ _ _ _ (by omega) (by omega) (by simp at * <;> omega))⟩)), ⟨(by omega), ⟨(by omega), ⟨(by omega), ⟨(fun hgd => (fun _ _ => ⟨rfl, (Go.Avm.Pack.c_rbars _ _ _ _ _ _ _ _ (by omega) (by omega) (by simp at * <;> omega))⟩)), ⟨(by omega), ?_⟩⟩⟩⟩⟩⟩⟩⟩⟩⟩⟩⟩⟩⟩⟩⟩, fun c1 => have c1 : ¬(List.getD (List.getD (List.getD x.l i default).l k default).needs.l m default).low + (↑t : Int) ≤ (List.getD (List.getD (List.getD x.l i default).l k default).needs.l m default).high := (of_decide_eq_false c1); ?_⟩⟩⟩
        · intro _
          have hn : ((((x.l.getD i default).l.getD k default).needs.l.getD m default).low + t).toNat + 1 ≤ (x.l.getD (((x.l.getD i default).l.getD k default).needs.l.getD m default).pack.toNat default).l.length := by omega
          exact opOk_loadK rfl rfl (by kernel_rfl) (getO_hpL (x := x) (L := L) hj8) hn rfl
        · refine (next_round (t + 1) (to_fr ⟨(Le.refl _), ⟨(Le.refl _), ⟨(Le.refl _), ⟨(Le.refl _), ⟨(Le.refl _), ⟨(Le.refl _), ⟨(Le.of_eq ?_), ⟨(Le.of_eq ?_), trivial⟩⟩⟩⟩⟩⟩⟩⟩ rfl rfl) ?_ ?_)
          · show AV.bool _ = AV.bool _
            congr 1
            rw [List.range_succ, List.any_append]
            simp only [List.any_cons, List.any_nil, Bool.or_false]
            unfold okB
            exact or_picks _ _ _ _
          · show AV.int .i64 _ = AV.int .i64 _
            congr 1
            omega
          · omega
          · omega
        · have he : (List.range t).any (fun q => okB x L i k (((x.l.getD i default).l.getD k default).needs.l.getD m default) ((((x.l.getD i default).l.getD k default).needs.l.getD m default).low + q)) = needB x L i k (((x.l.getD i default).l.getD k default).needs.l.getD m default) := by
            rw [← hany]
            congr 2
            omega
          refine ⟨_, To.refl _, vcQ [] (lkL [(10, [1, 2, 3, 4, 9, 10, 83]), (11, [8])]) (fun _ => []) (fun (Q : AEx → St R.σ → Prop) => ((!List.any (List.range t) fun (q : Nat) => okB x L (↑i : Int) (↑k : Int) (List.getD (List.getD (List.getD x.l i default).l k default).needs.l m default) ((List.getD (List.getD (List.getD x.l i default).l k default).needs.l m default).low + (↑q : Int))) = true → Q AEx.ret (St.mk [(8, AV.bool true)] [cells false 1 (nth [encPacks x]), cells false (List.length x.l * 1) fun (a : Nat) => outC x a, inO x L 0, inO x L 1, inO x L 2, inO x L 3, inO x L 4, inO x L 5, inO x L 6, inO x L 7, cells false 1 (nth [encPacks x])] g)) ∧ ((!List.any (List.range t) fun (q : Nat) => okB x L (↑i : Int) (↑k : Int) (List.getD (List.getD (List.getD x.l i default).l k default).needs.l m default) ((List.getD (List.getD (List.getD x.l i default).l k default).needs.l m default).low + (↑q : Int))) = false → Q AEx.normal (St.mk [(1, ow true 1 (List.length x.l) 1), (2, int i64 (↑i : Int)), (3, int i64 (↑k : Int)), (4, ref 10 0), (9, encR (List.getD (List.getD x.l i default).l k default).needs), (10, int i64 (↑m : Int)), (83, AV.bool !List.any (List.range t) fun (q : Nat) => okB x L (↑i : Int) (↑k : Int) (List.getD (List.getD (List.getD x.l i default).l k default).needs.l m default) ((List.getD (List.getD (List.getD x.l i default).l k default).needs.l m default).low + (↑q : Int)))] [cells false 1 (nth [encPacks x]), cells false (List.length x.l * 1) fun (a : Nat) => outC x a, inO x L 0, inO x L 1, inO x L 2, inO x L 3, inO x L 4, inO x L 5, inO x L 6, inO x L 7, cells false 1 (nth [encPacks x])] g))) (fun _ => by kernel_rfl) ⟨fun c1 => have c1 : (List.any (List.range t) fun (q : Nat) => okB x L (↑i : Int) (↑k : Int) (List.getD (List.getD (List.getD x.l i default).l k default).needs.l m default) ((List.getD (List.getD (List.getD x.l i default).l k default).needs.l m default).low + (↑q : Int))) = false := ((Bool.not_eq_true' _).mp c1); ?_, fun c1 => have c1 : (List.any (List.range t) fun (q : Nat) => okB x L (↑i : Int) (↑k : Int) (List.getD (List.getD (List.getD x.l i default).l k default).needs.l m default) ((List.getD (List.getD (List.getD x.l i default).l k default).needs.l m default).low + (↑q : Int))) = true := ((Bool.not_eq_false' _).mp c1); ?_⟩⟩
          · have c2 : needB x L i k (((x.l.getD i default).l.getD k default).needs.l.getD m default) = false := by rw [← he]; simpa using c1
            refine ⟨_, To.refl _, (retQ_le (retQ_take' 10 _ _ rfl trivial (by omega) trivial ⟨(fun j hj => match j, hj with | 0, _ => trivial ), ⟨(fun _ _ => ?_), ⟨(fun _ _ => trivial), ⟨(fun _ _ => trivial), ⟨(fun _ _ => trivial), ⟨(fun _ _ => trivial), ⟨(fun _ _ => trivial), ⟨(fun _ _ => trivial), ⟨(fun _ _ => trivial), ⟨(fun _ _ => trivial), trivial⟩⟩⟩⟩⟩⟩⟩⟩⟩⟩ (by kernel_rfl) rfl rfl) (Le.of_eq ?_))⟩
            · show 2 + _ < 10
              omega
            show AV.bool _ = AV.bool _
            congr 1
            symm
            rw [Bool.not_eq_true', List.all_eq_false]
            exact ⟨_, getD_mem _ (default : Rng) (show m < _ by omega), by rw [c2]; simp⟩
          · have c2 : needB x L i k (((x.l.getD i default).l.getD k default).needs.l.getD m default) = true := by rw [← he]; simpa using c1
            refine vcQ [] (lkL [(4, [1, 2, 3, 4, 9, 10])]) (fun _ => []) (fun (Q : AEx → St R.σ → Prop) => (-9223372036854775808 ≤ (↑m : Int) + 1 ∧ (↑m : Int) + 1 ≤ 9223372036854775807) ∧ Q AEx.normal (St.mk [(1, ow true 1 (List.length x.l) 1), (2, int i64 (↑i : Int)), (3, int i64 (↑k : Int)), (4, ref 10 0), (9, encR (List.getD (List.getD x.l i default).l k default).needs), (10, int i64 ((↑m : Int) + 1))] [cells false 1 (nth [encPacks x]), cells false (List.length x.l * 1) fun (a : Nat) => outC x a, inO x L 0, inO x L 1, inO x L 2, inO x L 3, inO x L 4, inO x L 5, inO x L 6, inO x L 7, cells false 1 (nth [encPacks x])] g)) (fun _ => by kernel_rfl) ⟨(by omega), ?_⟩
            refine (next_round (m + 1) (to_fr ⟨(Le.refl _), ⟨(Le.refl _), ⟨(Le.refl _), ⟨(Le.refl _), ⟨(Le.refl _), ⟨(Le.of_eq (by kernel_rfl)), trivial⟩⟩⟩⟩⟩⟩ rfl rfl) ?_ ?_)
            · refine ⟨by omega, fun q hq => ?_⟩
              rcases Nat.lt_or_ge q m with h | h
              · exact h2 q h
              · have : q = m := by omega
                subst this
                exact c2
            · omega
    · refine ⟨_, To.refl _, vcQ [] (lkL [(12, [8])]) (fun _ => []) (fun (Q : AEx → St R.σ → Prop) => Q AEx.ret (St.mk [(8, AV.bool false)] [cells false 1 (nth [encPacks x]), cells false (List.length x.l * 1) fun (a : Nat) => outC x a, inO x L 0, inO x L 1, inO x L 2, inO x L 3, inO x L 4, inO x L 5, inO x L 6, inO x L 7, cells false 1 (nth [encPacks x])] g)) (fun _ => by kernel_rfl) (?_)⟩
      refine (retQ_le (retQ_take' 10 _ _ rfl trivial (by omega) trivial ⟨(fun j hj => match j, hj with | 0, _ => trivial ), ⟨(fun _ _ => ?_), ⟨(fun _ _ => trivial), ⟨(fun _ _ => trivial), ⟨(fun _ _ => trivial), ⟨(fun _ _ => trivial), ⟨(fun _ _ => trivial), ⟨(fun _ _ => trivial), ⟨(fun _ _ => trivial), ⟨(fun _ _ => trivial), trivial⟩⟩⟩⟩⟩⟩⟩⟩⟩⟩ (by kernel_rfl) rfl rfl) (Le.of_eq ?_))
      · show 2 + _ < 10
        omega
      show AV.bool _ = AV.bool _
      congr 1
      symm
      rw [Bool.not_eq_false', List.all_eq_true]
      intro r hr
      obtain ⟨q, hq, rfl⟩ := List.getElem_of_mem hr
      have := h2 q (by omega)
      rw [List.getD_eq_getElem?_getD, List.getElem?_eq_getElem hq, Option.getD_some] at this
      exact this
end Go.Avm.Pack
namespace Go.Avm.Pack
open Go Go.Avm Go.Proofs
open Go.IntKind (i64 u64)
open Go.Avm.AV (int bool any fz fp sl ow ref fn ifc val agg tup)
open Go.Avm.AObj (cells dead)
open Go.Avm.Oc (ret)
set_option maxRecDepth 4000

theorem clr_bit {s k : Nat} (hs : s < 32) (hk : k < 5) (c : Nat) : (clrS s k).testBit c = (s.testBit c && c != k) := by
  rcases Nat.lt_or_ge c 5 with hc | hc
  · have h := forS (p := fun s => (List.range 5).all fun k => (List.range 5).all fun c => (clrS s k).testBit c == (s.testBit c && c != k)) (by decide) s hs
    have h := (List.all_eq_true.1 ((List.all_eq_true.1 h) k (by simpa using hk))) c (by simpa using hc)
    exact eq_of_beq h
  · have h32 : 2 ^ 5 ≤ 2 ^ c := Nat.pow_le_pow_right (by decide) hc
    have h1 : clrS s k ≤ s := by
      unfold clrS
      split
      · exact Nat.sub_le _ _
      · exact Nat.le_refl _
    rw [Nat.testBit_lt_two_pow (Nat.lt_of_lt_of_le (Nat.lt_of_le_of_lt h1 hs) h32), Nat.testBit_lt_two_pow (Nat.lt_of_lt_of_le hs h32)]
    rfl
theorem clr_lt {s k : Nat} (h : s.testBit k = true) : clrS s k < s := by
  unfold clrS
  rw [if_pos h]
  have := Nat.ge_two_pow_of_testBit h
  have : 0 < 2 ^ k := Nat.pow_pos (by decide)
  omega
theorem sum8_lt {L M : Nat → Nat} {i : Nat} (hi : i < 8) (h : ∀ j, M j ≤ L j) (hl : M i < L i) : sum8 M < sum8 L := by
  unfold sum8
  have a0 := h 0; have a1 := h 1; have a2 := h 2; have a3 := h 3; have a4 := h 4; have a5 := h 5; have a6 := h 6; have a7 := h 7
  match i, hi with
  | 0, _ => omega
  | 1, _ => omega
  | 2, _ => omega
  | 3, _ => omega
  | 4, _ => omega
  | 5, _ => omega
  | 6, _ => omega
  | 7, _ => omega
def InvT (x : Ix) (L0 L : Nat → Nat) (c : Bool) (q : Prop) : Prop := setsL x L ∧ subL (trimL x) L ∧ (c = false → L = L0 ∧ q) ∧ (c = true → sum8 L < sum8 L0)
theorem InvT.drop {x : Ix} {L0 L : Nat → Nat} {c : Bool} {q q' : Prop} {i k : Nat} (h : InvT x L0 L c q) (hx : formedB x = true) (hi : i < x.l.length) (hb : (L i).testBit k = true) (hn : ((x.l.getD i default).l.getD k default).needs.l.all (needB x L i k) = false) : InvT x L0 (updN L i (clrS (L i) k)) true q' := by
  obtain ⟨h1, h2, h3, h4⟩ := h
  have h8 := (formed_le hx).2
  have e : dropK x i L k = updN L i (clrS (L i) k) := by unfold dropK; rw [hn]; rfl
  have hlt : sum8 (updN L i (clrS (L i) k)) < sum8 L := by
    refine sum8_lt (i := i) (by omega) (fun j => ?_) ?_
    · rw [← e]; exact drop_le x i L k j
    · show (if i = i then _ else _) < _
      rw [if_pos rfl]
      exact clr_lt hb
  refine ⟨by rw [← e]; exact sets_drop h1 i k, by rw [← e]; exact drop_max hi (trim_closed hx) h1 h2, fun hc => (by cases hc), fun _ => ?_⟩
  cases c with
  | true => have := h4 rfl; omega
  | false => rw [(h3 rfl).1] at hlt; rw [(h3 rfl).1]; exact hlt
theorem setO_hpL {x : Ix} {L L' : Nat → Nat} {r : List AObj} {j : Nat} {o : AObj} (hj : j < 8) (h : ∀ m, m ≠ j → inO x L' m = inO x L m) (ho : o = inO x L' j) : setO (hpL x L r) (2 + j) o = hpL x L' r := by
  subst ho
  match j, hj with
  | 0, _ => unfold hpL; rw [h 1 (by decide), h 2 (by decide), h 3 (by decide), h 4 (by decide), h 5 (by decide), h 6 (by decide), h 7 (by decide)]; rfl
  | 1, _ => unfold hpL; rw [h 0 (by decide), h 2 (by decide), h 3 (by decide), h 4 (by decide), h 5 (by decide), h 6 (by decide), h 7 (by decide)]; rfl
  | 2, _ => unfold hpL; rw [h 0 (by decide), h 1 (by decide), h 3 (by decide), h 4 (by decide), h 5 (by decide), h 6 (by decide), h 7 (by decide)]; rfl
  | 3, _ => unfold hpL; rw [h 0 (by decide), h 1 (by decide), h 2 (by decide), h 4 (by decide), h 5 (by decide), h 6 (by decide), h 7 (by decide)]; rfl
  | 4, _ => unfold hpL; rw [h 0 (by decide), h 1 (by decide), h 2 (by decide), h 3 (by decide), h 5 (by decide), h 6 (by decide), h 7 (by decide)]; rfl
  | 5, _ => unfold hpL; rw [h 0 (by decide), h 1 (by decide), h 2 (by decide), h 3 (by decide), h 4 (by decide), h 6 (by decide), h 7 (by decide)]; rfl
  | 6, _ => unfold hpL; rw [h 0 (by decide), h 1 (by decide), h 2 (by decide), h 3 (by decide), h 4 (by decide), h 5 (by decide), h 7 (by decide)]; rfl
  | 7, _ => unfold hpL; rw [h 0 (by decide), h 1 (by decide), h 2 (by decide), h 3 (by decide), h 4 (by decide), h 5 (by decide), h 6 (by decide)]; rfl
def inB (x : Ix) (m j : Nat) : AObj := .cells false (bif Nat.blt j m then (x.l.getD j default).l.length else 0) (fun _ => .bool true)
def hpMk (x : Ix) (m : Nat) : List AObj := [.cells false 1 (nth [encPacks x]), .cells false (m * 1) (outC x), inB x m 0, inB x m 1, inB x m 2, inB x m 3, inB x m 4, inB x m 5, inB x m 6, inB x m 7]
theorem newO {n k : Nat} (h : k = n) : LeO (.cells false (n * 1) (fun c => .bool (Nat.blt c k))) (.cells false n (fun _ => .bool true)) := by
  subst h
  refine ⟨rfl, by omega, fun c hc => Le.of_eq ?_⟩
  show AV.bool (Nat.blt c k) = AV.bool true
  congr 1
  rw [Nat.blt_eq]
  exact hc
theorem startO {x : Ix} (hx : formedB x = true) (j : Nat) : LeO (inB x x.l.length j) (inO x (fullN x x.l.length) j) := by
  unfold inB inO
  rcases Nat.lt_or_ge j x.l.length with h | h
  · have e : Nat.blt j x.l.length = true := by rw [Nat.blt_eq]; exact h
    rw [e]
    refine LeO.cells (fun c hc => ?_)
    show AV.bool true = AV.bool _
    congr 1
    unfold fullN
    rw [if_pos h, Nat.testBit_two_pow_sub_one]
    exact (decide_eq_true hc).symm
  · have e : (x.l.getD j default).l.length = 0 := by
      rw [List.getD_eq_getElem?_getD, List.getElem?_eq_none h]
      rfl
    rw [e]
    exact ⟨rfl, Nat.zero_le _, fun c hc => absurd hc (Nat.not_lt_zero c)⟩
theorem trim_full_sub {x : Ix} (hx : formedB x = true) : subL (trimL x) (fullN x x.l.length) := fun j n hn => by
  obtain ⟨h1, h2, h3⟩ := trim_sets hx j
  rcases Nat.lt_or_ge j x.l.length with h | h
  · exact full_mem hx h (h3 n hn)
  · rw [h2 h] at hn
    simp [memS] at hn
theorem setO_clr {x : Ix} {L : Nat → Nat} {r : List AObj} {i k : Nat} (hi : i < 8) (hs : L i < 32) (hk : k < 5) : setO (hpL x L r) (2 + i) (.cells false (x.l.getD i default).l.length (over (fun c => .bool ((L i).testBit c)) k 1 (fun _ => .bool false))) = hpL x (updN L i (clrS (L i) k)) r := by
  refine setO_hpL hi (fun m hm => ?_) ?_
  · unfold inO
    have e : updN L i (clrS (L i) k) m = L m := by unfold updN; rw [if_neg hm]
    rw [e]
  · unfold inO
    congr 1
    funext c
    have e : updN L i (clrS (L i) k) i = clrS (L i) k := by unfold updN; rw [if_pos rfl]
    rw [e, over_eq, clr_bit hs hk]
    by_cases h : c = k
    · subst h
      rw [if_pos (by omega)]
      simp
    · rw [if_neg (by omega)]
      simp [h]
theorem left_eq {x : Ix} {L : Nat → Nat} (hx : formedB x = true) (h1 : setsL x L) (h2 : subL (trimL x) L) (h3 : closedL x L) : L = trimL x := by
  have hsub : subL L (fullN x x.l.length) := fun j n hn => by
    obtain ⟨a1, a2, a3⟩ := h1 j
    rcases Nat.lt_or_ge j x.l.length with h | h
    · exact full_mem hx h (a3 n hn)
    · rw [a2 h] at hn
      simp [memS] at hn
  have h4 : subL L (trimL x) := trim_max hx h3 hsub (trimY x)
  funext j
  have b1 := (h1 j).1
  have b2 := (trim_sets hx j).1
  refine Nat.eq_of_testBit_eq fun c => ?_
  rcases Nat.lt_or_ge c 5 with hc | hc
  · rw [Bool.eq_iff_iff]
    exact ⟨fun h => (mem_memS.1 (h4 j c (mem_memS.2 ⟨hc, h⟩))).2, fun h => (mem_memS.1 (h2 j c (mem_memS.2 ⟨hc, h⟩))).2⟩
  · have h32 : 2 ^ 5 ≤ 2 ^ c := Nat.pow_le_pow_right (by decide) hc
    rw [Nat.testBit_lt_two_pow (Nat.lt_of_lt_of_le b1 h32), Nat.testBit_lt_two_pow (Nat.lt_of_lt_of_le b2 h32)]
theorem opOk_eqH {P : Program} {R : Res} {o : Oper} {ev : Operand → AV} {hp hp' hp'' : List AObj} {g g' : R.σ} {v : AV} (h : OpOk P R o ev hp g v hp' g') (e : hp' = hp'') : OpOk P R o ev hp g v hp'' g' := e ▸ h
def natC (l : List Nat) : Nat → AV := fun k => .int .i64 ((l.getD k 0 : Nat) : Int)
def bitL (s k : Nat) : List Nat := (List.range k).filter (fun q => s.testBit q)
theorem bitL_succ {s k : Nat} : bitL s (k + 1) = if s.testBit k then bitL s k ++ [k] else bitL s k := by
  unfold bitL
  rw [List.range_succ, List.filter_append]
  cases h : s.testBit k <;> simp [h]
theorem bitL_le (s k : Nat) : (bitL s k).length ≤ k := by
  have := List.length_filter_le (fun q => s.testBit q) (List.range k)
  rw [List.length_range] at this
  exact this
theorem bitL_all {s k : Nat} (hk : k ≤ 5) (h : ∀ n, n ∈ memS s → n < k) : bitL s k = memS s := by
  have key : ∀ n, n ≤ 5 → k ≤ n → bitL s n = bitL s k := fun n => by
    induction n with
    | zero => intro _ h; rw [show k = 0 by omega]
    | succ n ih =>
      intro h1 h2
      rcases Nat.lt_or_ge n k with h3 | h3
      · rw [show n + 1 = k by omega]
      · have hb : s.testBit n = false := by
          cases hb : s.testBit n with
          | false => rfl
          | true => exact absurd (h n (mem_memS.2 ⟨by omega, hb⟩)) (by omega)
        rw [bitL_succ, hb]
        exact ih (by omega) h3
  exact (key 5 (Nat.le_refl _) hk).symm
theorem below_natC {k : Nat} (l : List Nat) (j : Nat) : Below k (natC l j) := trivial
theorem natC_append {l : List Nat} {n c : Nat} {z f : Nat → AV} (hc : c < (l.length + 1) * 1) (hf : f 0 = .int .i64 (n : Int) := by rfl) : natC (l ++ [n]) c = plainJ 1 l.length (fun a b => natC l (a * 1 + b)) (fun a b => over z 0 1 f (0 + a * 1 + b)) c := by
  unfold plainJ
  by_cases h : c < l.length * 1
  · rw [if_pos h]
    show _ = natC l (c / 1 * 1 + c % 1)
    rw [show c / 1 * 1 + c % 1 = c by omega]
    unfold natC
    rw [List.getD_eq_getElem?_getD, List.getElem?_append_left (by omega), ← List.getD_eq_getElem?_getD]
  · rw [if_neg h]
    show _ = over z 0 1 f (0 + (c - l.length * 1) / 1 * 1 + (c - l.length * 1) % 1)
    have : c = l.length := by omega
    subst this
    rw [over_eq, show 0 + (l.length - l.length * 1) / 1 * 1 + (l.length - l.length * 1) % 1 = 0 by omega, if_pos (by omega), hf]
    unfold natC
    rw [List.getD_eq_getElem?_getD, List.getElem?_append_right (Nat.le_refl _), Nat.sub_self]
    rfl
theorem outRen {x : Ix} {m : Nat} {f : Nat → Nat} (h8 : m ≤ 8) (h0 : f 2 = 2) (h1 : f 3 = 3) (h2 : f 4 = 4) (h3 : f 5 = 5) (h4 : f 6 = 6) (h5 : f 7 = 7) (h6 : f 8 = 8) (h7 : f 9 = 9) : LeO (.cells false (m * 1) (outC x)) (renO f (.cells false (m * 1) (outC x))) := by
  refine LeO.cells (fun a ha => ?_)
  have e : f (2 + a) = 2 + a := by
    have ha : a < 8 := by omega
    match a, ha with
    | 0, _ => exact h0
    | 1, _ => exact h1
    | 2, _ => exact h2
    | 3, _ => exact h3
    | 4, _ => exact h4
    | 5, _ => exact h5
    | 6, _ => exact h6
    | 7, _ => exact h7
  show outC x a = AV.sl (f (2 + a)) 0 _ _ true 1
  rw [e]
  rfl
theorem rtrim_raw (R : Res) (x : Ix) (g : R.σ) (hs : small x) (hx : formedB x = true) : Does Tryd.prog R 12 [encIx x] [] g (.ret (encLL x.l.length (fun i => memS (trimL x i)))) [] g := by
  have h8 := (formed_le hx).2
  have hroom : maxRoom = 140737488355328 := rfl
  refine spec_of_wp (nt := 108) (rs := [.tmp 2]) (k0 := 0) (by kernel_rfl) (by kernel_rfl) (by kernel_rfl) rfl ?_
  refine vcQ [] (lkL [(0, [1]), (1, [1, 3]), (2, [1, 3, 4])]) (fun _ => []) (fun (Q : AEx → St R.σ → Prop) => Wp Tryd.prog R 108 0 Rd.top (bodyOf Tryd.prog 12) [1, 1, 0, 1, 0] (contQ Tryd.prog R 108 0 Rd.top (bodyOf Tryd.prog 12) Q [Kont.blk 0, Kont.seq [1, 1, 1]]) (St.mk [(1, ref 0 0), (3, fz Fz.nil 0 0 fun (x x_1 : Nat) => any), (4, int i64 0)] [cells false 1 (nth [encPacks x])] g)) (fun _ => by kernel_rfl) (?_)
  refine wp_to (to_ghost (outC x)) ?_
  refine wp_to (to_ghost (fun _ => .bool true)) ?_
  refine wp_to (to_ghost (fun _ => .bool true)) ?_
  refine wp_to (to_ghost (fun _ => .bool true)) ?_
  refine wp_to (to_ghost (fun _ => .bool true)) ?_
  refine wp_to (to_ghost (fun _ => .bool true)) ?_
  refine wp_to (to_ghost (fun _ => .bool true)) ?_
  refine wp_to (to_ghost (fun _ => .bool true)) ?_
  refine wp_to (to_ghost (fun _ => .bool true)) ?_
  refine (wp_loop (by kernel_rfl) (fun (i : Nat) => ⟨[(1, ref 0 0), (3, .ow true 1 i 1), (4, .int .i64 i)], (hpMk x i), g⟩) (fun (i : Nat) => (i ≤ x.l.length)) (fun (i : Nat) => (x.l.length - i)) 0 (to_le ⟨(Le.refl _), ⟨Le.nil_ow, ⟨(Le.of_eq (by kernel_rfl)), trivial⟩⟩⟩ ⟨LeO.rflc, ⟨LeO.rflc, ⟨LeO.rflc, ⟨LeO.rflc, ⟨LeO.rflc, ⟨LeO.rflc, ⟨LeO.rflc, ⟨LeO.rflc, ⟨LeO.rflc, ⟨LeO.rflc, trivial⟩⟩⟩⟩⟩⟩⟩⟩⟩⟩ rfl) ?_ (fun i hi => ?_))
  · omega
  · have hlen := formed_five hx (i := i)
    refine vcQ [] (lkL [(3, [1, 3, 4, 18]), (5, [1, 3, 4, 5]), (6, [1, 3, 4, 5, 6])]) (fun _ => []) (fun (Q : AEx → St R.σ → Prop) => 1 ≤ 1 ∧ (decide ((↑i : Int) < (↑(List.length x.l) : Int)) = true → 1 ≤ 1 ∧ (0 ≤ (↑i : Int) ∧ (↑i : Int) < (↑(List.length x.l) : Int)) ∧ 1 ≤ 1 ∧ 0 ≤ (↑(List.length (List.getD x.l i default).l) : Int) ∧ (↑(List.length (List.getD x.l i default).l) : Int) ≤ (↑(List.length (List.getD x.l i default).l) : Int) ∧ (↑(List.length (List.getD x.l i default).l) : Int) ≤ 140737488355328 ∧ List.length (List.getD x.l i default).l * 1 ≤ maxRoom ∧ Wp Tryd.prog R 108 0 Rd.top (bodyOf Tryd.prog 12) [1, 1, 0, 1, 0, 0, 1, 0, 0, 1, 0, 1, 0] (contQ Tryd.prog R 108 0 Rd.top (bodyOf Tryd.prog 12) Q [Kont.blk 2, Kont.seq [1, 1, 0, 1, 0, 0, 1, 0, 0, 1, 1], Kont.blk 1, Kont.seq [1, 1, 0, 1, 0, 0, 1, 1]]) (St.mk [(1, ref 0 0), (3, ow true 1 i 1), (4, int i64 (↑i : Int)), (5, sl 10 0 (List.length (List.getD x.l i default).l) (List.length (List.getD x.l i default).l) true 1), (6, int i64 0)] [cells false 1 (nth [encPacks x]), cells false (i * 1) fun (a : Nat) => outC x a, inB x i 0, inB x i 1, inB x i 2, inB x i 3, inB x i 4, inB x i 5, inB x i 6, inB x i 7, cells false (List.length (List.getD x.l i default).l * 1) fun (j : Nat) => AV.bool false] g)) ∧ (decide ((↑i : Int) < (↑(List.length x.l) : Int)) = false → Q (AEx.exit 0) (St.mk [(1, ref 0 0), (3, ow true 1 i 1), (4, int i64 (↑i : Int)), (18, AV.bool (decide ((↑i : Int) < (↑(List.length x.l) : Int))))] [cells false 1 (nth [encPacks x]), cells false (i * 1) fun (a : Nat) => outC x a, inB x i 0, inB x i 1, inB x i 2, inB x i 3, inB x i 4, inB x i 5, inB x i 6, inB x i 7] g))) (fun _ => by kernel_rfl) ⟨(by omega), ⟨fun c1 => have c1 : (↑i : Int) < (↑(List.length x.l) : Int) := (of_decide_eq_true c1); ⟨(by omega), ⟨(by omega), ⟨(by omega), ⟨(by omega), ⟨(by omega), ⟨(by omega), ⟨(by omega), ?_⟩⟩⟩⟩⟩⟩⟩, fun c1 => have c1 : ¬(↑i : Int) < (↑(List.length x.l) : Int) := (of_decide_eq_false c1); ?_⟩⟩
    · refine (wp_loop (by kernel_rfl) (fun (k : Nat) => ⟨[(1, ref 0 0), (3, ow true 1 i 1), (4, int i64 (↑i : Int)), (5, sl 10 0 (List.length (List.getD x.l i default).l) (List.length (List.getD x.l i default).l) true 1), (6, .int .i64 k)], [.cells false 1 (nth [encPacks x]), .cells false (i * 1) (outC x), inB x i 0, inB x i 1, inB x i 2, inB x i 3, inB x i 4, inB x i 5, inB x i 6, inB x i 7, .cells false ((x.l.getD i default).l.length * 1) (fun c => .bool (Nat.blt c k))], g⟩) (fun (k : Nat) => (k ≤ (x.l.getD i default).l.length)) (fun (k : Nat) => ((x.l.getD i default).l.length - k)) 0 (to_fr ⟨(Le.refl _), ⟨(Le.refl _), ⟨(Le.refl _), ⟨(Le.refl _), ⟨(Le.of_eq (by kernel_rfl)), trivial⟩⟩⟩⟩⟩ rfl rfl) ?_ (fun k hi => ?_))
      · omega
      · refine vcQ [] (lkL [(7, [1, 3, 4, 5, 6, 31]), (9, [1, 3, 4, 5, 6]), (8, [1, 3, 4, 5, 6])]) (fun _ => []) (fun (Q : AEx → St R.σ → Prop) => (decide ((↑k : Int) < (↑(List.length (List.getD x.l i default).l) : Int)) = true → (0 ≤ (↑k : Int) ∧ (↑k : Int) < (↑(List.length (List.getD x.l i default).l) : Int)) ∧ k + 1 ≤ List.length (List.getD x.l i default).l * 1 ∧ (-9223372036854775808 ≤ (↑k : Int) + 1 ∧ (↑k : Int) + 1 ≤ 9223372036854775807) ∧ Q AEx.normal (St.mk [(1, ref 0 0), (3, ow true 1 i 1), (4, int i64 (↑i : Int)), (5, sl 10 0 (List.length (List.getD x.l i default).l) (List.length (List.getD x.l i default).l) true 1), (6, int i64 ((↑k : Int) + 1))] [cells false 1 (nth [encPacks x]), cells false (i * 1) fun (a : Nat) => outC x a, inB x i 0, inB x i 1, inB x i 2, inB x i 3, inB x i 4, inB x i 5, inB x i 6, inB x i 7, cells false (List.length (List.getD x.l i default).l * 1) (over (fun (c : Nat) => AV.bool (Nat.blt c k)) k 1 fun (x : Nat) => AV.bool true)] g)) ∧ (decide ((↑k : Int) < (↑(List.length (List.getD x.l i default).l) : Int)) = false → Q (AEx.exit 2) (St.mk [(1, ref 0 0), (3, ow true 1 i 1), (4, int i64 (↑i : Int)), (5, sl 10 0 (List.length (List.getD x.l i default).l) (List.length (List.getD x.l i default).l) true 1), (6, int i64 (↑k : Int)), (31, AV.bool (decide ((↑k : Int) < (↑(List.length (List.getD x.l i default).l) : Int))))] [cells false 1 (nth [encPacks x]), cells false (i * 1) fun (a : Nat) => outC x a, inB x i 0, inB x i 1, inB x i 2, inB x i 3, inB x i 4, inB x i 5, inB x i 6, inB x i 7, cells false (List.length (List.getD x.l i default).l * 1) fun (c : Nat) => AV.bool (Nat.blt c k)] g))) (fun _ => by kernel_rfl) ⟨fun c1 => have c1 : (↑k : Int) < (↑(List.length (List.getD x.l i default).l) : Int) := (of_decide_eq_true c1); ⟨(by omega), ⟨(by omega), ⟨(by omega), ?_⟩⟩⟩, fun c1 => have c1 : ¬(↑k : Int) < (↑(List.length (List.getD x.l i default).l) : Int) := (of_decide_eq_false c1); ?_⟩
        · refine (next_round (k + 1) (to_le ⟨(Le.refl _), ⟨(Le.refl _), ⟨(Le.refl _), ⟨(Le.refl _), ⟨(Le.of_eq (by kernel_rfl)), trivial⟩⟩⟩⟩⟩ ⟨LeO.rflc, ⟨LeO.rflc, ⟨LeO.rflc, ⟨LeO.rflc, ⟨LeO.rflc, ⟨LeO.rflc, ⟨LeO.rflc, ⟨LeO.rflc, ⟨LeO.rflc, ⟨LeO.rflc, ⟨?_, trivial⟩⟩⟩⟩⟩⟩⟩⟩⟩⟩⟩ rfl) ?_ ?_)
          · refine LeO.cells (fun c hc => ?_)
            rw [over_eq]
            show (if k ≤ c ∧ c < k + 1 then AV.bool true else AV.bool (Nat.blt c k)) = AV.bool (Nat.blt c (k + 1))
            by_cases h : c = k
            · subst h
              rw [if_pos (by omega)]
              congr 1
              exact (show Nat.blt c (c + 1) = true by rw [Nat.blt_eq]; omega).symm
            · rw [if_neg (by omega)]
              congr 1
              rw [Bool.eq_iff_iff, Nat.blt_eq, Nat.blt_eq]
              omega
          · omega
          · omega
        · have hke : k = (x.l.getD i default).l.length := by omega
          refine ⟨_, To.refl _, vcQ [] (lkL [(10, [1, 3, 4])]) (lkL [(10, [(3, ROrc.val (Orc.obj fun (c : Nat) => if c < i then outC x c else sl 10 0 (List.length (List.getD x.l i default).l) (List.length (List.getD x.l i default).l) true 1))])]) (fun (Q : AEx → St R.σ → Prop) => 0 < 1 ∧ (i + 1) * 24 ≤ maxRoom ∧ i + 1 ≤ maxRoom ∧ 1 ≤ 1 ∧ i * 1 ≤ i * 1 ∧ (∀ (c : Nat), c < (i + 1) * 1 → (if c < i then outC x c else sl 10 0 (List.length (List.getD x.l i default).l) (List.length (List.getD x.l i default).l) true 1) = plainJ 1 i (fun (i j : Nat) => outC x (i * 1 + j)) (fun (i_1 j : Nat) => over (fun (j : Nat) => fz Fz.nil 0 0 fun (x x_1 : Nat) => any) 0 1 (fun (x_1 : Nat) => sl 10 0 (List.length (List.getD x.l i default).l) (List.length (List.getD x.l i default).l) true 1) (0 + i_1 * 1 + j)) c) ∧ Q AEx.normal (St.mk [(1, ref 0 0), (3, ow true 12 (i + 1) 1), (4, int i64 (↑i : Int))] [cells false 1 (nth [encPacks x]), dead, inB x i 0, inB x i 1, inB x i 2, inB x i 3, inB x i 4, inB x i 5, inB x i 6, inB x i 7, cells false (List.length (List.getD x.l i default).l * 1) fun (c : Nat) => AV.bool (Nat.blt c k), cells false 1 (over (fun (j : Nat) => fz Fz.nil 0 0 fun (x x_1 : Nat) => any) 0 1 fun (x_1 : Nat) => sl 10 0 (List.length (List.getD x.l i default).l) (List.length (List.getD x.l i default).l) true 1), cells false ((i + 1) * 1) fun (a : Nat) => if a < i then outC x a else sl 10 0 (List.length (List.getD x.l i default).l) (List.length (List.getD x.l i default).l) true 1] g)) (fun _ => by kernel_rfl) ⟨(by omega), ⟨(by omega), ⟨(by omega), ⟨(by omega), ⟨(by omega), ⟨?_, ?_⟩⟩⟩⟩⟩⟩⟩
          · intro c hc
            rw [show plainJ 1 i _ _ c = if c < i * 1 then _ else _ from rfl]
            by_cases h : c < i
            · rw [if_pos h, if_pos (by omega)]
              show _ = AV.sl (2 + (c / 1 * 1 + c % 1)) 0 (x.l.getD (c / 1 * 1 + c % 1) default).l.length (x.l.getD (c / 1 * 1 + c % 1) default).l.length true 1
              rw [show c / 1 * 1 + c % 1 = c by omega]
              rfl
            · rw [if_neg h, if_neg (by omega), over_eq, if_pos (by omega)]
          · refine vcQ [] (lkL [(4, [1, 3, 4])]) (fun _ => []) (fun (Q : AEx → St R.σ → Prop) => (-9223372036854775808 ≤ (↑i : Int) + 1 ∧ (↑i : Int) + 1 ≤ 9223372036854775807) ∧ Q AEx.normal (St.mk [(1, ref 0 0), (3, ow true 12 (i + 1) 1), (4, int i64 ((↑i : Int) + 1))] [cells false 1 (nth [encPacks x]), dead, inB x i 0, inB x i 1, inB x i 2, inB x i 3, inB x i 4, inB x i 5, inB x i 6, inB x i 7, cells false (List.length (List.getD x.l i default).l * 1) fun (c : Nat) => AV.bool (Nat.blt c k), cells false 1 (over (fun (j : Nat) => fz Fz.nil 0 0 fun (x x_1 : Nat) => any) 0 1 fun (x_1 : Nat) => sl 10 0 (List.length (List.getD x.l i default).l) (List.length (List.getD x.l i default).l) true 1), cells false ((i + 1) * 1) fun (a : Nat) => if a < i then outC x a else sl 10 0 (List.length (List.getD x.l i default).l) (List.length (List.getD x.l i default).l) true 1] g)) (fun _ => by kernel_rfl) ⟨(by omega), ?_⟩
            have h7 : i = 0 ∨ i = 1 ∨ i = 2 ∨ i = 3 ∨ i = 4 ∨ i = 5 ∨ i = 6 ∨ i = 7 ∨ False := by omega
            rcases h7 with rfl | h7
            · refine (next_round 1 (to_sel [0, 12, 10, 3, 4, 5, 6, 7, 8, 9] 13 rfl rfl rfl rfl rfl ⟨(Le.refl _), ⟨(Le.refl _), ⟨(Le.refl _), trivial⟩⟩⟩ ⟨⟨rfl, Nat.le_refl _, fun j hj => match j, hj with | 0, _ => (Le.refl _) ⟩, ⟨⟨rfl, Nat.le_refl _, fun j hj => match j, hj with | 0, _ => (Le.refl _) ⟩, ⟨?_, ⟨⟨rfl, Nat.le_refl _, fun j hj => absurd hj (Nat.not_lt_zero j)⟩, ⟨⟨rfl, Nat.le_refl _, fun j hj => absurd hj (Nat.not_lt_zero j)⟩, ⟨⟨rfl, Nat.le_refl _, fun j hj => absurd hj (Nat.not_lt_zero j)⟩, ⟨⟨rfl, Nat.le_refl _, fun j hj => absurd hj (Nat.not_lt_zero j)⟩, ⟨⟨rfl, Nat.le_refl _, fun j hj => absurd hj (Nat.not_lt_zero j)⟩, ⟨⟨rfl, Nat.le_refl _, fun j hj => absurd hj (Nat.not_lt_zero j)⟩, ⟨⟨rfl, Nat.le_refl _, fun j hj => absurd hj (Nat.not_lt_zero j)⟩, trivial⟩⟩⟩⟩⟩⟩⟩⟩⟩⟩) ?_ ?_)
              · exact newO hke
              · omega
              · omega
            rcases h7 with rfl | h7
            · refine (next_round 2 (to_sel [0, 12, 2, 10, 4, 5, 6, 7, 8, 9] 13 rfl rfl rfl rfl rfl ⟨(Le.refl _), ⟨(Le.refl _), ⟨(Le.refl _), trivial⟩⟩⟩ ⟨⟨rfl, Nat.le_refl _, fun j hj => match j, hj with | 0, _ => (Le.refl _) ⟩, ⟨⟨rfl, Nat.le_refl _, fun j hj => match j, hj with | 0, _ => (Le.refl _) | 1, _ => (Le.refl _) ⟩, ⟨?_, ⟨?_, ⟨⟨rfl, Nat.le_refl _, fun j hj => absurd hj (Nat.not_lt_zero j)⟩, ⟨⟨rfl, Nat.le_refl _, fun j hj => absurd hj (Nat.not_lt_zero j)⟩, ⟨⟨rfl, Nat.le_refl _, fun j hj => absurd hj (Nat.not_lt_zero j)⟩, ⟨⟨rfl, Nat.le_refl _, fun j hj => absurd hj (Nat.not_lt_zero j)⟩, ⟨⟨rfl, Nat.le_refl _, fun j hj => absurd hj (Nat.not_lt_zero j)⟩, ⟨⟨rfl, Nat.le_refl _, fun j hj => absurd hj (Nat.not_lt_zero j)⟩, trivial⟩⟩⟩⟩⟩⟩⟩⟩⟩⟩) ?_ ?_)
              · exact LeO.refl _
              · exact newO hke
              · omega
              · omega
            rcases h7 with rfl | h7
            · refine (next_round 3 (to_sel [0, 12, 2, 3, 10, 5, 6, 7, 8, 9] 13 rfl rfl rfl rfl rfl ⟨(Le.refl _), ⟨(Le.refl _), ⟨(Le.refl _), trivial⟩⟩⟩ ⟨⟨rfl, Nat.le_refl _, fun j hj => match j, hj with | 0, _ => (Le.refl _) ⟩, ⟨⟨rfl, Nat.le_refl _, fun j hj => match j, hj with | 0, _ => (Le.refl _) | 1, _ => (Le.refl _) | 2, _ => (Le.refl _) ⟩, ⟨?_, ⟨?_, ⟨?_, ⟨⟨rfl, Nat.le_refl _, fun j hj => absurd hj (Nat.not_lt_zero j)⟩, ⟨⟨rfl, Nat.le_refl _, fun j hj => absurd hj (Nat.not_lt_zero j)⟩, ⟨⟨rfl, Nat.le_refl _, fun j hj => absurd hj (Nat.not_lt_zero j)⟩, ⟨⟨rfl, Nat.le_refl _, fun j hj => absurd hj (Nat.not_lt_zero j)⟩, ⟨⟨rfl, Nat.le_refl _, fun j hj => absurd hj (Nat.not_lt_zero j)⟩, trivial⟩⟩⟩⟩⟩⟩⟩⟩⟩⟩) ?_ ?_)
              · exact LeO.refl _
              · exact LeO.refl _
              · exact newO hke
              · omega
              · omega
            rcases h7 with rfl | h7
            · refine (next_round 4 (to_sel [0, 12, 2, 3, 4, 10, 6, 7, 8, 9] 13 rfl rfl rfl rfl rfl ⟨(Le.refl _), ⟨(Le.refl _), ⟨(Le.refl _), trivial⟩⟩⟩ ⟨⟨rfl, Nat.le_refl _, fun j hj => match j, hj with | 0, _ => (Le.refl _) ⟩, ⟨⟨rfl, Nat.le_refl _, fun j hj => match j, hj with | 0, _ => (Le.refl _) | 1, _ => (Le.refl _) | 2, _ => (Le.refl _) | 3, _ => (Le.refl _) ⟩, ⟨?_, ⟨?_, ⟨?_, ⟨?_, ⟨⟨rfl, Nat.le_refl _, fun j hj => absurd hj (Nat.not_lt_zero j)⟩, ⟨⟨rfl, Nat.le_refl _, fun j hj => absurd hj (Nat.not_lt_zero j)⟩, ⟨⟨rfl, Nat.le_refl _, fun j hj => absurd hj (Nat.not_lt_zero j)⟩, ⟨⟨rfl, Nat.le_refl _, fun j hj => absurd hj (Nat.not_lt_zero j)⟩, trivial⟩⟩⟩⟩⟩⟩⟩⟩⟩⟩) ?_ ?_)
              · exact LeO.refl _
              · exact LeO.refl _
              · exact LeO.refl _
              · exact newO hke
              · omega
              · omega
            rcases h7 with rfl | h7
            · refine (next_round 5 (to_sel [0, 12, 2, 3, 4, 5, 10, 7, 8, 9] 13 rfl rfl rfl rfl rfl ⟨(Le.refl _), ⟨(Le.refl _), ⟨(Le.refl _), trivial⟩⟩⟩ ⟨⟨rfl, Nat.le_refl _, fun j hj => match j, hj with | 0, _ => (Le.refl _) ⟩, ⟨⟨rfl, Nat.le_refl _, fun j hj => match j, hj with | 0, _ => (Le.refl _) | 1, _ => (Le.refl _) | 2, _ => (Le.refl _) | 3, _ => (Le.refl _) | 4, _ => (Le.refl _) ⟩, ⟨?_, ⟨?_, ⟨?_, ⟨?_, ⟨?_, ⟨⟨rfl, Nat.le_refl _, fun j hj => absurd hj (Nat.not_lt_zero j)⟩, ⟨⟨rfl, Nat.le_refl _, fun j hj => absurd hj (Nat.not_lt_zero j)⟩, ⟨⟨rfl, Nat.le_refl _, fun j hj => absurd hj (Nat.not_lt_zero j)⟩, trivial⟩⟩⟩⟩⟩⟩⟩⟩⟩⟩) ?_ ?_)
              · exact LeO.refl _
              · exact LeO.refl _
              · exact LeO.refl _
              · exact LeO.refl _
              · exact newO hke
              · omega
              · omega
            rcases h7 with rfl | h7
            · refine (next_round 6 (to_sel [0, 12, 2, 3, 4, 5, 6, 10, 8, 9] 13 rfl rfl rfl rfl rfl ⟨(Le.refl _), ⟨(Le.refl _), ⟨(Le.refl _), trivial⟩⟩⟩ ⟨⟨rfl, Nat.le_refl _, fun j hj => match j, hj with | 0, _ => (Le.refl _) ⟩, ⟨⟨rfl, Nat.le_refl _, fun j hj => match j, hj with | 0, _ => (Le.refl _) | 1, _ => (Le.refl _) | 2, _ => (Le.refl _) | 3, _ => (Le.refl _) | 4, _ => (Le.refl _) | 5, _ => (Le.refl _) ⟩, ⟨?_, ⟨?_, ⟨?_, ⟨?_, ⟨?_, ⟨?_, ⟨⟨rfl, Nat.le_refl _, fun j hj => absurd hj (Nat.not_lt_zero j)⟩, ⟨⟨rfl, Nat.le_refl _, fun j hj => absurd hj (Nat.not_lt_zero j)⟩, trivial⟩⟩⟩⟩⟩⟩⟩⟩⟩⟩) ?_ ?_)
              · exact LeO.refl _
              · exact LeO.refl _
              · exact LeO.refl _
              · exact LeO.refl _
              · exact LeO.refl _
              · exact newO hke
              · omega
              · omega
            rcases h7 with rfl | h7
            · refine (next_round 7 (to_sel [0, 12, 2, 3, 4, 5, 6, 7, 10, 9] 13 rfl rfl rfl rfl rfl ⟨(Le.refl _), ⟨(Le.refl _), ⟨(Le.refl _), trivial⟩⟩⟩ ⟨⟨rfl, Nat.le_refl _, fun j hj => match j, hj with | 0, _ => (Le.refl _) ⟩, ⟨⟨rfl, Nat.le_refl _, fun j hj => match j, hj with | 0, _ => (Le.refl _) | 1, _ => (Le.refl _) | 2, _ => (Le.refl _) | 3, _ => (Le.refl _) | 4, _ => (Le.refl _) | 5, _ => (Le.refl _) | 6, _ => (Le.refl _) ⟩, ⟨?_, ⟨?_, ⟨?_, ⟨?_, ⟨?_, ⟨?_, ⟨?_, ⟨⟨rfl, Nat.le_refl _, fun j hj => absurd hj (Nat.not_lt_zero j)⟩, trivial⟩⟩⟩⟩⟩⟩⟩⟩⟩⟩) ?_ ?_)
              · exact LeO.refl _
              · exact LeO.refl _
              · exact LeO.refl _
              · exact LeO.refl _
              · exact LeO.refl _
              · exact LeO.refl _
              · exact newO hke
              · omega
              · omega
            rcases h7 with rfl | h7
            · refine (next_round 8 (to_sel [0, 12, 2, 3, 4, 5, 6, 7, 8, 10] 13 rfl rfl rfl rfl rfl ⟨(Le.refl _), ⟨(Le.refl _), ⟨(Le.refl _), trivial⟩⟩⟩ ⟨⟨rfl, Nat.le_refl _, fun j hj => match j, hj with | 0, _ => (Le.refl _) ⟩, ⟨⟨rfl, Nat.le_refl _, fun j hj => match j, hj with | 0, _ => (Le.refl _) | 1, _ => (Le.refl _) | 2, _ => (Le.refl _) | 3, _ => (Le.refl _) | 4, _ => (Le.refl _) | 5, _ => (Le.refl _) | 6, _ => (Le.refl _) | 7, _ => (Le.refl _) ⟩, ⟨?_, ⟨?_, ⟨?_, ⟨?_, ⟨?_, ⟨?_, ⟨?_, ⟨?_, trivial⟩⟩⟩⟩⟩⟩⟩⟩⟩⟩) ?_ ?_)
              · exact LeO.refl _
              · exact LeO.refl _
              · exact LeO.refl _
              · exact LeO.refl _
              · exact LeO.refl _
              · exact LeO.refl _
              · exact LeO.refl _
              · exact newO hke
              · omega
              · omega
            exact h7.elim
    · have hie : i = x.l.length := by omega
      subst hie
      refine ⟨_, To.refl _, vcQ [] (lkL [(11, [1, 3, 7])]) (fun _ => []) (fun (Q : AEx → St R.σ → Prop) => Wp Tryd.prog R 108 0 Rd.top (bodyOf Tryd.prog 12) [1, 1, 1, 0, 1, 0] (contQ Tryd.prog R 108 0 Rd.top (bodyOf Tryd.prog 12) Q [Kont.blk 4, Kont.seq [1, 1, 1, 1]]) (St.mk [(1, ref 0 0), (3, ow true 1 (List.length x.l) 1), (7, AV.bool true)] [cells false 1 (nth [encPacks x]), cells false (List.length x.l * 1) fun (a : Nat) => outC x a, inB x (List.length x.l) 0, inB x (List.length x.l) 1, inB x (List.length x.l) 2, inB x (List.length x.l) 3, inB x (List.length x.l) 4, inB x (List.length x.l) 5, inB x (List.length x.l) 6, inB x (List.length x.l) 7] g)) (fun _ => by kernel_rfl) (?_)⟩
      refine (wp_loop (by kernel_rfl) (fun (y : (Nat → Nat) × Bool) => ⟨[(1, ref 0 0), (3, ow true 1 (List.length x.l) 1), (7, .bool y.2)], (hpL x y.1 []), g⟩) (fun (y : (Nat → Nat) × Bool) => (setsL x y.1 ∧ subL (trimL x) y.1 ∧ (y.2 = false → closedL x y.1))) (fun (y : (Nat → Nat) × Bool) => (sum8 y.1 * 2 + if y.2 = true then 1 else 0)) ((fullN x x.l.length, true) : (Nat → Nat) × Bool) (to_le ⟨(Le.refl _), ⟨(Le.refl _), ⟨(Le.refl _), trivial⟩⟩⟩ ⟨LeO.rflc, ⟨LeO.rflc, ⟨?_, ⟨?_, ⟨?_, ⟨?_, ⟨?_, ⟨?_, ⟨?_, ⟨?_, trivial⟩⟩⟩⟩⟩⟩⟩⟩⟩⟩ rfl) ?_ (fun y hi => ?_))
      · exact startO hx 0
      · exact startO hx 1
      · exact startO hx 2
      · exact startO hx 3
      · exact startO hx 4
      · exact startO hx 5
      · exact startO hx 6
      · exact startO hx 7
      · exact ⟨sets_full hx, trim_full_sub hx, fun h => by cases h⟩
      · obtain ⟨y1, y2, y3⟩ := hi
        refine vcQ [] (lkL [(12, [1, 3, 41]), (13, [1, 3, 7]), (14, [1, 3, 7, 8])]) (fun _ => []) (fun (Q : AEx → St R.σ → Prop) => (y.snd = true → Wp Tryd.prog R 108 0 Rd.top (bodyOf Tryd.prog 12) [1, 1, 1, 0, 1, 0, 0, 1, 0, 1, 1, 0] (contQ Tryd.prog R 108 0 Rd.top (bodyOf Tryd.prog 12) Q [Kont.blk 6, Kont.blk 5]) (St.mk [(1, ref 0 0), (3, ow true 1 (List.length x.l) 1), (7, AV.bool false), (8, int i64 0)] [cells false 1 (nth [encPacks x]), cells false (List.length x.l * 1) fun (a : Nat) => outC x a, inO x y.fst 0, inO x y.fst 1, inO x y.fst 2, inO x y.fst 3, inO x y.fst 4, inO x y.fst 5, inO x y.fst 6, inO x y.fst 7] g)) ∧ (y.snd = false → Q (AEx.exit 4) (St.mk [(1, ref 0 0), (3, ow true 1 (List.length x.l) 1), (41, AV.bool y.snd)] [cells false 1 (nth [encPacks x]), cells false (List.length x.l * 1) fun (a : Nat) => outC x a, inO x y.fst 0, inO x y.fst 1, inO x y.fst 2, inO x y.fst 3, inO x y.fst 4, inO x y.fst 5, inO x y.fst 6, inO x y.fst 7] g))) (fun _ => by kernel_rfl) ⟨fun c1 => ?_, fun c1 => ?_⟩
        · have hy : y.2 = true := c1
          refine (wp_loop (by kernel_rfl) (fun (u : Nat × (Nat → Nat) × Bool) => ⟨[(1, ref 0 0), (3, ow true 1 (List.length x.l) 1), (7, .bool u.2.2), (8, .int .i64 u.1)], (hpL x u.2.1 []), g⟩) (fun (u : Nat × (Nat → Nat) × Bool) => (u.1 ≤ x.l.length ∧ InvT x y.1 u.2.1 u.2.2 (∀ i, i < u.1 → ∀ k, k ∈ memS (y.1 i) → ((x.l.getD i default).l.getD k default).needs.l.all (needB x y.1 i k) = true))) (fun (u : Nat × (Nat → Nat) × Bool) => (x.l.length - u.1)) ((0, y.1, false) : Nat × (Nat → Nat) × Bool) (to_fr ⟨(Le.refl _), ⟨(Le.refl _), ⟨(Le.refl _), ⟨(Le.of_eq (by kernel_rfl)), trivial⟩⟩⟩⟩ rfl rfl) ?_ (fun u hi => ?_))
          · exact ⟨Nat.zero_le _, y1, y2, fun _ => ⟨rfl, fun i hi => absurd hi (Nat.not_lt_zero _)⟩, fun h => (by cases h)⟩
          · obtain ⟨i, L, c⟩ := u
            obtain ⟨u1, u2⟩ := hi
            refine vcQ [] (lkL [(15, [1, 3, 7, 8, 45]), (17, [1, 3, 7, 8, 9])]) (fun _ => []) (fun (Q : AEx → St R.σ → Prop) => (decide ((↑i : Int) < (↑(List.length x.l) : Int)) = true → Wp Tryd.prog R 108 0 Rd.top (bodyOf Tryd.prog 12) [1, 1, 1, 0, 1, 0, 0, 1, 0, 1, 1, 0, 0, 1, 0, 0, 1, 0] (contQ Tryd.prog R 108 0 Rd.top (bodyOf Tryd.prog 12) Q [Kont.blk 8, Kont.blk 7, Kont.seq [1, 1, 1, 0, 1, 0, 0, 1, 0, 1, 1, 0, 0, 1, 1]]) (St.mk [(1, ref 0 0), (3, ow true 1 (List.length x.l) 1), (7, AV.bool c), (8, int i64 (↑i : Int)), (9, int i64 0)] [cells false 1 (nth [encPacks x]), cells false (List.length x.l * 1) fun (a : Nat) => outC x a, inO x L 0, inO x L 1, inO x L 2, inO x L 3, inO x L 4, inO x L 5, inO x L 6, inO x L 7] g)) ∧ (decide ((↑i : Int) < (↑(List.length x.l) : Int)) = false → Q (AEx.exit 6) (St.mk [(1, ref 0 0), (3, ow true 1 (List.length x.l) 1), (7, AV.bool c), (8, int i64 (↑i : Int)), (45, AV.bool (decide ((↑i : Int) < (↑(List.length x.l) : Int))))] [cells false 1 (nth [encPacks x]), cells false (List.length x.l * 1) fun (a : Nat) => outC x a, inO x L 0, inO x L 1, inO x L 2, inO x L 3, inO x L 4, inO x L 5, inO x L 6, inO x L 7] g))) (fun _ => by kernel_rfl) ⟨fun c1 => have c1 : (↑i : Int) < (↑(List.length x.l) : Int) := (of_decide_eq_true c1); ?_, fun c1 => have c1 : ¬(↑i : Int) < (↑(List.length x.l) : Int) := (of_decide_eq_false c1); ?_⟩
            · have hlen5 := formed_five hx (show i < x.l.length by omega)
              refine (wp_loop (by kernel_rfl) (fun (v : Nat × (Nat → Nat) × Bool) => ⟨[(1, ref 0 0), (3, ow true 1 (List.length x.l) 1), (7, .bool v.2.2), (8, int i64 (↑i : Int)), (9, .int .i64 v.1)], (hpL x v.2.1 []), g⟩) (fun (v : Nat × (Nat → Nat) × Bool) => (v.1 ≤ (x.l.getD i default).l.length ∧ InvT x y.1 v.2.1 v.2.2 ((∀ i', i' < i → ∀ k, k ∈ memS (y.1 i') → ((x.l.getD i' default).l.getD k default).needs.l.all (needB x y.1 i' k) = true) ∧ ∀ k, k < v.1 → (y.1 i).testBit k = true → ((x.l.getD i default).l.getD k default).needs.l.all (needB x y.1 i k) = true))) (fun (v : Nat × (Nat → Nat) × Bool) => ((x.l.getD i default).l.length - v.1)) ((0, L, c) : Nat × (Nat → Nat) × Bool) (to_fr ⟨(Le.refl _), ⟨(Le.refl _), ⟨(Le.refl _), ⟨(Le.refl _), ⟨(Le.of_eq (by kernel_rfl)), trivial⟩⟩⟩⟩⟩ rfl rfl) ?_ (fun v hi => ?_))
              · exact ⟨Nat.zero_le _, u2.1, u2.2.1, fun hc => ⟨(u2.2.2.1 hc).1, (u2.2.2.1 hc).2, fun k hk => absurd hk (Nat.not_lt_zero _)⟩, u2.2.2.2⟩
              · obtain ⟨k, L, c⟩ := v
                obtain ⟨v1, v2⟩ := hi
                have hLs := v2.1
                have hi8 : i < 8 := by omega
                refine vcQ [] (lkL [(18, [1, 3, 7, 8, 9, 54]), (20, [1, 3, 7, 8, 9, 70]), (21, [1, 3, 8, 9]), (22, [1, 3, 7, 8, 9]), (19, [1, 3, 7, 8, 9])]) (lkL [(20, [(6, ROrc.kop (AV.bool (Nat.testBit (L i) k))), (12, ROrc.kcall (AV.bool !List.all (List.getD (List.getD x.l i default).l k default).needs.l (needB x L (↑i : Int) (↑k : Int))))]), (21, [(6, ROrc.own any (hpL x (updN L i (clrS (L i) k)) []) g)])]) (fun (Q : AEx → St R.σ → Prop) => (0 ≤ (↑i : Int) ∧ (↑i : Int) < (↑(List.length x.l) : Int)) ∧ i + 1 ≤ List.length x.l * 1 ∧ (decide ((↑k : Int) < (↑(List.length (List.getD x.l i default).l) : Int)) = true → (0 ≤ (↑i : Int) ∧ (↑i : Int) < (↑(List.length x.l) : Int)) ∧ i + 1 ≤ List.length x.l * 1 ∧ (0 ≤ (↑k : Int) ∧ (↑k : Int) < (↑(List.length (List.getD x.l i default).l) : Int)) ∧ OpOk Tryd.prog R (Oper.mk (some 63) (Op.load 4 (Operand.tmp 62)) 4 "ref.go:157" #[Edge.mk 5 Ground.data] none) (evO [Row.mk (some 62) none (ref (2 + i) k) false (some []) [], Row.mk (some 61) none (int i64 (↑k : Int)) false (some []) [], Row.mk (some 60) none (outC x i) false (some []) [1], Row.mk (some 59) none (ref 1 i) false (some []) [], Row.mk (some 58) none (int i64 (↑i : Int)) false (some []) [], Row.mk (some 57) none (ow true 1 (List.length x.l) 1) false (some []) []] [(1, ref 0 0), (3, ow true 1 (List.length x.l) 1), (7, AV.bool c), (8, int i64 (↑i : Int)), (9, int i64 (↑k : Int)), (54, AV.bool (decide ((↑k : Int) < (↑(List.length (List.getD x.l i default).l) : Int))))] []) [cells false 1 (nth [encPacks x]), cells false (List.length x.l * 1) fun (a : Nat) => outC x a, inO x L 0, inO x L 1, inO x L 2, inO x L 3, inO x L 4, inO x L 5, inO x L 6, inO x L 7] g (AV.bool (Nat.testBit (L i) k)) [cells false 1 (nth [encPacks x]), cells false (List.length x.l * 1) fun (a : Nat) => outC x a, inO x L 0, inO x L 1, inO x L 2, inO x L 3, inO x L 4, inO x L 5, inO x L 6, inO x L 7] g ∧ (Nat.testBit (L i) k = true → 1 ≤ 1) ∧ (Nat.testBit (L i) k = true → true = true ∧ Does Tryd.prog R 46 [encIx x, ow true 1 (List.length x.l) 1, int i64 (↑i : Int), int i64 (↑k : Int)] [cells false 1 (nth [encPacks x]), cells false (List.length x.l * 1) fun (a : Nat) => outC x a, inO x L 0, inO x L 1, inO x L 2, inO x L 3, inO x L 4, inO x L 5, inO x L 6, inO x L 7] g (ret (AV.bool !List.all (List.getD (List.getD x.l i default).l k default).needs.l (needB x L (↑i : Int) (↑k : Int)))) [cells false 1 (nth [encPacks x]), cells false (List.length x.l * 1) fun (a : Nat) => outC x a, inO x L 0, inO x L 1, inO x L 2, inO x L 3, inO x L 4, inO x L 5, inO x L 6, inO x L 7] g) ∧ ((bif Nat.testBit (L i) k then !List.all (List.getD (List.getD x.l i default).l k default).needs.l (needB x L (↑i : Int) (↑k : Int)) else false) = true → (0 ≤ (↑i : Int) ∧ (↑i : Int) < (↑(List.length x.l) : Int)) ∧ i + 1 ≤ List.length x.l * 1 ∧ (0 ≤ (↑k : Int) ∧ (↑k : Int) < (↑(List.length (List.getD x.l i default).l) : Int)) ∧ OpOk Tryd.prog R (Oper.mk none (Op.store 4 (Operand.tmp 76) (Operand.const (Value.bool false))) 0 "ref.go:158" #[Edge.mk 5 Ground.data, Edge.mk 0 Ground.phase, Edge.mk 1 Ground.phase, Edge.mk 2 Ground.phase, Edge.mk 3 Ground.phase, Edge.mk 4 Ground.phase] none) (evO [Row.mk (some 76) none (ref (2 + i) k) false (some []) [], Row.mk (some 75) none (int i64 (↑k : Int)) false (some []) [], Row.mk (some 74) none (outC x i) false (some []) [1], Row.mk (some 73) none (ref 1 i) false (some []) [], Row.mk (some 72) none (int i64 (↑i : Int)) false (some []) [], Row.mk (some 71) none (ow true 1 (List.length x.l) 1) false (some []) []] [(1, ref 0 0), (3, ow true 1 (List.length x.l) 1), (7, AV.bool c), (8, int i64 (↑i : Int)), (9, int i64 (↑k : Int)), (70, AV.bool (bif Nat.testBit (L i) k then !List.all (List.getD (List.getD x.l i default).l k default).needs.l (needB x L (↑i : Int) (↑k : Int)) else false))] []) [cells false 1 (nth [encPacks x]), cells false (List.length x.l * 1) fun (a : Nat) => outC x a, inO x L 0, inO x L 1, inO x L 2, inO x L 3, inO x L 4, inO x L 5, inO x L 6, inO x L 7] g any [cells false 1 (nth [encPacks x]), cells false (List.length x.l * 1) fun (a : Nat) => outC x a, inO x (updN L i (clrS (L i) k)) 0, inO x (updN L i (clrS (L i) k)) 1, inO x (updN L i (clrS (L i) k)) 2, inO x (updN L i (clrS (L i) k)) 3, inO x (updN L i (clrS (L i) k)) 4, inO x (updN L i (clrS (L i) k)) 5, inO x (updN L i (clrS (L i) k)) 6, inO x (updN L i (clrS (L i) k)) 7] g ∧ (-9223372036854775808 ≤ (↑k : Int) + 1 ∧ (↑k : Int) + 1 ≤ 9223372036854775807) ∧ Q AEx.normal (St.mk [(1, ref 0 0), (3, ow true 1 (List.length x.l) 1), (7, AV.bool true), (8, int i64 (↑i : Int)), (9, int i64 ((↑k : Int) + 1))] [cells false 1 (nth [encPacks x]), cells false (List.length x.l * 1) fun (a : Nat) => outC x a, inO x (updN L i (clrS (L i) k)) 0, inO x (updN L i (clrS (L i) k)) 1, inO x (updN L i (clrS (L i) k)) 2, inO x (updN L i (clrS (L i) k)) 3, inO x (updN L i (clrS (L i) k)) 4, inO x (updN L i (clrS (L i) k)) 5, inO x (updN L i (clrS (L i) k)) 6, inO x (updN L i (clrS (L i) k)) 7] g)) ∧ ((bif Nat.testBit (L i) k then !List.all (List.getD (List.getD x.l i default).l k default).needs.l (needB x L (↑i : Int) (↑k : Int)) else false) = false → (-9223372036854775808 ≤ (↑k : Int) + 1 ∧ (↑k : Int) + 1 ≤ 9223372036854775807) ∧ Q AEx.normal (St.mk [(1, ref 0 0), (3, ow true 1 (List.length x.l) 1), (7, AV.bool c), (8, int i64 (↑i : Int)), (9, int i64 ((↑k : Int) + 1))] [cells false 1 (nth [encPacks x]), cells false (List.length x.l * 1) fun (a : Nat) => outC x a, inO x L 0, inO x L 1, inO x L 2, inO x L 3, inO x L 4, inO x L 5, inO x L 6, inO x L 7] g))) ∧ (decide ((↑k : Int) < (↑(List.length (List.getD x.l i default).l) : Int)) = false → Q (AEx.exit 8) (St.mk [(1, ref 0 0), (3, ow true 1 (List.length x.l) 1), (7, AV.bool c), (8, int i64 (↑i : Int)), (9, int i64 (↑k : Int)), (54, AV.bool (decide ((↑k : Int) < (↑(List.length (List.getD x.l i default).l) : Int))))] [cells false 1 (nth [encPacks x]), cells false (List.length x.l * 1) fun (a : Nat) => outC x a, inO x L 0, inO x L 1, inO x L 2, inO x L 3, inO x L 4, inO x L 5, inO x L 6, inO x L 7] g))) (fun _ => by kernel_rfl) ⟨(by omega), ⟨(by omega), ⟨fun c1 => have c1 : (↑k : Int) < (↑(List.length (List.getD x.l i default).l) : Int) := (of_decide_eq_true c1); ⟨(by omega), ⟨(by omega), ⟨(by omega), ⟨?_, ⟨(by omega), ⟨?_, ⟨fun c2 => have c2 : Nat.testBit (L i) k = true ∧ List.all (List.getD (List.getD x.l i default).l k default).needs.l (needB x L (↑i : Int) (↑k : Int)) = false := ⟨(cA_t c2).1, ((Bool.not_eq_true' _).mp (cA_t c2).2)⟩; ⟨(by omega), ⟨(by omega), ⟨(by omega), ⟨?_, ⟨(by omega), ?_⟩⟩⟩⟩⟩, fun c2 => have c2 : Nat.testBit (L i) k = false ∨ List.all (List.getD (List.getD x.l i default).l k default).needs.l (needB x L (↑i : Int) (↑k : Int)) = true := ((cA_f c2).imp (fun h => h) (fun h => ((Bool.not_eq_false' _).mp h))); ⟨(by omega), ?_⟩⟩⟩⟩⟩⟩⟩⟩, fun c1 => have c1 : ¬(↑k : Int) < (↑(List.length (List.getD x.l i default).l) : Int) := (of_decide_eq_false c1); ?_⟩⟩⟩
                · exact opOk_loadK rfl rfl (by kernel_rfl) (getO_hpL (x := x) (L := L) hi8) (show k + 1 ≤ _ by omega) rfl
                · exact fun _ => ⟨rfl, c_lacks R x L i k g hx hLs (by omega) (by omega)⟩
                · exact opOk_eqH (opOk_storeK rfl rfl (by kernel_rfl) rfl rfl (getO_hpL (x := x) (L := L) hi8) (show k + 1 ≤ _ by omega)) (setO_clr (x := x) (L := L) (k := k) (r := []) hi8 (hLs i).1 (by omega))
                · refine (next_round (k + 1, updN L i (clrS (L i) k), true) (to_fr ⟨(Le.refl _), ⟨(Le.refl _), ⟨(Le.refl _), ⟨(Le.refl _), ⟨(Le.of_eq (by kernel_rfl)), trivial⟩⟩⟩⟩⟩ rfl rfl) ?_ ?_)
                  · refine ⟨by show k + 1 ≤ _; omega, v2.drop hx (by omega) c2.1 c2.2⟩
                  · show (x.l.getD i default).l.length - (k + 1) < (x.l.getD i default).l.length - k
                    omega
                · refine (next_round (k + 1, L, c) (to_fr ⟨(Le.refl _), ⟨(Le.refl _), ⟨(Le.refl _), ⟨(Le.refl _), ⟨(Le.of_eq (by kernel_rfl)), trivial⟩⟩⟩⟩⟩ rfl rfl) ?_ ?_)
                  · refine ⟨by show k + 1 ≤ _; omega, v2.1, v2.2.1, fun hc => ?_, v2.2.2.2⟩
                    obtain ⟨m1, m2, m3⟩ := v2.2.2.1 hc
                    refine ⟨m1, m2, fun k' hk' hb => ?_⟩
                    have hk' : k' < k + 1 := hk'
                    rcases Nat.lt_or_ge k' k with h | h
                    · exact m3 k' h hb
                    · have : k' = k := by omega
                      subst this
                      have m1 : L = y.1 := m1
                      rcases c2 with h | h
                      · rw [m1, hb] at h; cases h
                      · rw [← m1]; exact h
                  · show (x.l.getD i default).l.length - (k + 1) < (x.l.getD i default).l.length - k
                    omega
                · have hk : k = (x.l.getD i default).l.length := by omega
                  refine ⟨_, To.refl _, vcQ [] (lkL [(16, [1, 3, 7, 8])]) (fun _ => []) (fun (Q : AEx → St R.σ → Prop) => (-9223372036854775808 ≤ (↑i : Int) + 1 ∧ (↑i : Int) + 1 ≤ 9223372036854775807) ∧ Q AEx.normal (St.mk [(1, ref 0 0), (3, ow true 1 (List.length x.l) 1), (7, AV.bool c), (8, int i64 ((↑i : Int) + 1))] [cells false 1 (nth [encPacks x]), cells false (List.length x.l * 1) fun (a : Nat) => outC x a, inO x L 0, inO x L 1, inO x L 2, inO x L 3, inO x L 4, inO x L 5, inO x L 6, inO x L 7] g)) (fun _ => by kernel_rfl) ⟨(by omega), ?_⟩⟩
                  refine (next_round (i + 1, L, c) (to_fr ⟨(Le.refl _), ⟨(Le.refl _), ⟨(Le.refl _), ⟨(Le.of_eq (by kernel_rfl)), trivial⟩⟩⟩⟩ rfl rfl) ?_ ?_)
                  · refine ⟨by show i + 1 ≤ _; omega, v2.1, v2.2.1, fun hc => ?_, v2.2.2.2⟩
                    obtain ⟨m1, m2, m3⟩ := v2.2.2.1 hc
                    refine ⟨m1, fun i' hi' k' hk' => ?_⟩
                    have hi' : i' < i + 1 := hi'
                    rcases Nat.lt_or_ge i' i with h | h
                    · exact m2 i' h k' hk'
                    · have : i' = i := by omega
                      subst this
                      have hm := mem_memS.1 hk'
                      refine m3 k' ?_ hm.2
                      have := (y1 i').2.2 k' hk'
                      show k' < k
                      omega
                  · show x.l.length - (i + 1) < x.l.length - i
                    omega
            · refine ⟨_, To.refl _, (next_round (L, c) (to_fr ⟨(Le.refl _), ⟨(Le.refl _), ⟨(Le.refl _), trivial⟩⟩⟩ rfl rfl) ?_ ?_)⟩
              · refine ⟨u2.1, u2.2.1, fun hc i' k' hi' hk' => ?_⟩
                obtain ⟨m1, m2⟩ := u2.2.2.1 hc
                have m1 : L = y.1 := m1
                show _ = true
                have hk' : k' ∈ memS (L i') := hk'
                rw [m1] at hk' ⊢
                exact m2 i' (by show i' < i; omega) k' hk'
              · show sum8 L * 2 + (if c = true then 1 else 0) < sum8 y.1 * 2 + _
                rw [if_pos hy]
                cases hc : c with
                | true => have : sum8 L < sum8 y.1 := u2.2.2.2 hc; simp; omega
                | false =>
                  have m1 : L = y.1 := (u2.2.2.1 hc).1
                  rw [m1]; simp
        · have hL : y.1 = trimL x := by
            refine left_eq hx y1 y2 (y3 c1)
          obtain ⟨L, c⟩ := y
          have hL : L = trimL x := hL
          rw [hL]
          refine ⟨_, To.refl _, vcQ [] (lkL [(23, [3, 10]), (24, [3, 10, 11])]) (fun _ => []) (fun (Q : AEx → St R.σ → Prop) => Wp Tryd.prog R 108 0 Rd.top (bodyOf Tryd.prog 12) [1, 1, 1, 1, 1, 0, 1, 0] (contQ Tryd.prog R 108 0 Rd.top (bodyOf Tryd.prog 12) Q [Kont.blk 10, Kont.seq [1, 1, 1, 1, 1, 1]]) (St.mk [(3, ow true 1 (List.length x.l) 1), (10, fz Fz.nil 0 0 fun (x x_1 : Nat) => any), (11, int i64 0)] [cells false 1 (nth [encPacks x]), cells false (List.length x.l * 1) fun (a : Nat) => outC x a, inO x (trimL x) 0, inO x (trimL x) 1, inO x (trimL x) 2, inO x (trimL x) 3, inO x (trimL x) 4, inO x (trimL x) 5, inO x (trimL x) 6, inO x (trimL x) 7] g)) (fun _ => by kernel_rfl) (?_)⟩
          obtain ⟨T, hT⟩ : ∃ T, trimL x = T := ⟨_, rfl⟩
          have hTs := trim_sets hx
          rw [hT] at hTs
          rw [hT]
          refine (wp_loop (by kernel_rfl) (fun (i : Nat) => ⟨[(3, ow true 1 (List.length x.l) 1), (10, .ow true 10 i 1), (11, .int .i64 i)], (hpL x T [.cells false (i * 1) (llC (fun i => memS (T i)))]), g⟩) (fun (i : Nat) => (i ≤ x.l.length)) (fun (i : Nat) => (x.l.length - i)) 0 (To.trans (to_ghost (fun _ => .any)) (to_le ⟨(Le.refl _), ⟨Le.nil_ow, ⟨(Le.of_eq (by kernel_rfl)), trivial⟩⟩⟩ ⟨LeO.rflc, ⟨LeO.rflc, ⟨LeO.rflc, ⟨LeO.rflc, ⟨LeO.rflc, ⟨LeO.rflc, ⟨LeO.rflc, ⟨LeO.rflc, ⟨LeO.rflc, ⟨LeO.rflc, ⟨⟨rfl, Nat.le_refl _, fun j hj => absurd hj (Nat.not_lt_zero j)⟩, trivial⟩⟩⟩⟩⟩⟩⟩⟩⟩⟩⟩ rfl)) ?_ (fun i hi => ?_))
          · omega
          · have hi8 : i < x.l.length → i < 8 := fun h => by omega
            have hlen5 := formed_five hx (i := i)
            refine vcQ [] (lkL [(25, [3, 10, 11, 80]), (27, [3, 10, 11, 12]), (28, [3, 10, 11, 12, 13])]) (fun _ => []) (fun (Q : AEx → St R.σ → Prop) => (decide ((↑i : Int) < (↑(List.length x.l) : Int)) = true → Wp Tryd.prog R 108 0 Rd.top (bodyOf Tryd.prog 12) [1, 1, 1, 1, 1, 0, 1, 0, 0, 1, 0, 0, 1, 0, 1, 0] (contQ Tryd.prog R 108 0 Rd.top (bodyOf Tryd.prog 12) Q [Kont.blk 12, Kont.seq [1, 1, 1, 1, 1, 0, 1, 0, 0, 1, 0, 0, 1, 1], Kont.blk 11, Kont.seq [1, 1, 1, 1, 1, 0, 1, 0, 0, 1, 1]]) (St.mk [(3, ow true 1 (List.length x.l) 1), (10, ow true 10 i 1), (11, int i64 (↑i : Int)), (12, fz Fz.nil 0 0 fun (x x_2 : Nat) => any), (13, int i64 0)] [cells false 1 (nth [encPacks x]), cells false (List.length x.l * 1) fun (a : Nat) => outC x a, inO x T 0, inO x T 1, inO x T 2, inO x T 3, inO x T 4, inO x T 5, inO x T 6, inO x T 7, cells false (i * 1) fun (i : Nat) => fz Fz.auto 1 (List.length (memS (T i))) fun (k x : Nat) => natC (memS (T i)) k] g)) ∧ (decide ((↑i : Int) < (↑(List.length x.l) : Int)) = false → Q (AEx.exit 10) (St.mk [(3, ow true 1 (List.length x.l) 1), (10, ow true 10 i 1), (11, int i64 (↑i : Int)), (80, AV.bool (decide ((↑i : Int) < (↑(List.length x.l) : Int))))] [cells false 1 (nth [encPacks x]), cells false (List.length x.l * 1) fun (a : Nat) => outC x a, inO x T 0, inO x T 1, inO x T 2, inO x T 3, inO x T 4, inO x T 5, inO x T 6, inO x T 7, cells false (i * 1) fun (i : Nat) => fz Fz.auto 1 (List.length (memS (T i))) fun (k x : Nat) => natC (memS (T i)) k] g))) (fun _ => by kernel_rfl) ⟨fun c1 => have c1 : (↑i : Int) < (↑(List.length x.l) : Int) := (of_decide_eq_true c1); ?_, fun c1 => have c1 : ¬(↑i : Int) < (↑(List.length x.l) : Int) := (of_decide_eq_false c1); ?_⟩
            · refine (wp_loop (by kernel_rfl) (fun (k : Nat) => ⟨[(3, ow true 1 (List.length x.l) 1), (10, ow true 10 i 1), (11, int i64 (↑i : Int)), (12, .ow true 11 (bitL (T i) k).length 1), (13, .int .i64 k)], (hpL x T [.cells false (i * 1) (llC (fun i => memS (T i))), .cells false ((bitL (T i) k).length * 1) (natC (bitL (T i) k))]), g⟩) (fun (k : Nat) => (k ≤ (x.l.getD i default).l.length)) (fun (k : Nat) => ((x.l.getD i default).l.length - k)) 0 (To.trans (to_ghost (fun _ => .any)) (to_le ⟨(Le.refl _), ⟨(Le.refl _), ⟨(Le.refl _), ⟨Le.nil_ow, ⟨(Le.of_eq (by kernel_rfl)), trivial⟩⟩⟩⟩⟩ ⟨LeO.rflc, ⟨LeO.rflc, ⟨LeO.rflc, ⟨LeO.rflc, ⟨LeO.rflc, ⟨LeO.rflc, ⟨LeO.rflc, ⟨LeO.rflc, ⟨LeO.rflc, ⟨LeO.rflc, ⟨LeO.rflc, ⟨⟨rfl, Nat.le_refl _, fun j hj => absurd hj (Nat.not_lt_zero j)⟩, trivial⟩⟩⟩⟩⟩⟩⟩⟩⟩⟩⟩⟩ rfl)) ?_ (fun k hi => ?_))
              · omega
              · have hle := bitL_le (T i) k
                have hsc := bitL_succ (s := T i) (k := k)
                refine vcQ [] (lkL [(29, [3, 10, 11, 12, 13, 89]), (31, [3, 10, 11, 12, 13, 98]), (32, [3, 10, 11, 12, 13]), (30, [3, 10, 11, 12, 13])]) (lkL [(31, [(6, ROrc.kop (AV.bool (Nat.testBit (T i) k)))]), (32, [(3, ROrc.val (Orc.obj (natC (bitL (T i) (k + 1)))))])]) (fun (Q : AEx → St R.σ → Prop) => (0 ≤ (↑i : Int) ∧ (↑i : Int) < (↑(List.length x.l) : Int)) ∧ i + 1 ≤ List.length x.l * 1 ∧ (decide ((↑k : Int) < (↑(List.length (List.getD x.l i default).l) : Int)) = true → (0 ≤ (↑i : Int) ∧ (↑i : Int) < (↑(List.length x.l) : Int)) ∧ i + 1 ≤ List.length x.l * 1 ∧ (0 ≤ (↑k : Int) ∧ (↑k : Int) < (↑(List.length (List.getD x.l i default).l) : Int)) ∧ OpOk Tryd.prog R (Oper.mk (some 98) (Op.load 4 (Operand.tmp 97)) 4 "ref.go:168" #[Edge.mk 5 Ground.data] none) (evO [Row.mk (some 97) none (ref (2 + i) k) false (some []) [], Row.mk (some 96) none (int i64 (↑k : Int)) false (some []) [], Row.mk (some 95) none (outC x i) false (some []) [1], Row.mk (some 94) none (ref 1 i) false (some []) [], Row.mk (some 93) none (int i64 (↑i : Int)) false (some []) [], Row.mk (some 92) none (ow true 1 (List.length x.l) 1) false (some []) []] [(3, ow true 1 (List.length x.l) 1), (10, ow true 10 i 1), (11, int i64 (↑i : Int)), (12, ow true 11 (List.length (bitL (T i) k)) 1), (13, int i64 (↑k : Int)), (89, AV.bool (decide ((↑k : Int) < (↑(List.length (List.getD x.l i default).l) : Int))))] []) [cells false 1 (nth [encPacks x]), cells false (List.length x.l * 1) fun (a : Nat) => outC x a, inO x T 0, inO x T 1, inO x T 2, inO x T 3, inO x T 4, inO x T 5, inO x T 6, inO x T 7, cells false (i * 1) fun (i : Nat) => fz Fz.auto 1 (List.length (memS (T i))) fun (k x : Nat) => natC (memS (T i)) k, cells false (List.length (bitL (T i) k) * 1) fun (a : Nat) => natC (bitL (T i) k) a] g (AV.bool (Nat.testBit (T i) k)) [cells false 1 (nth [encPacks x]), cells false (List.length x.l * 1) fun (a : Nat) => outC x a, inO x T 0, inO x T 1, inO x T 2, inO x T 3, inO x T 4, inO x T 5, inO x T 6, inO x T 7, cells false (i * 1) fun (i : Nat) => fz Fz.auto 1 (List.length (memS (T i))) fun (k x : Nat) => natC (memS (T i)) k, cells false (List.length (bitL (T i) k) * 1) fun (a : Nat) => natC (bitL (T i) k) a] g ∧ (Nat.testBit (T i) k = true → 0 < 1 ∧ (List.length (bitL (T i) k) + 1) * 8 ≤ maxRoom ∧ List.length (bitL (T i) k) + 1 ≤ maxRoom ∧ 1 ≤ 1 ∧ List.length (bitL (T i) k) * 1 ≤ List.length (bitL (T i) k) * 1 ∧ (∀ (c : Nat), c < (List.length (bitL (T i) k) + 1) * 1 → natC (bitL (T i) (k + 1)) c = plainJ 1 (List.length (bitL (T i) k)) (fun (i_1 j : Nat) => natC (bitL (T i) k) (i_1 * 1 + j)) (fun (i j : Nat) => over (fun (j : Nat) => int i64 0) 0 1 (fun (x : Nat) => int i64 (↑k : Int)) (0 + i * 1 + j)) c) ∧ (-9223372036854775808 ≤ (↑k : Int) + 1 ∧ (↑k : Int) + 1 ≤ 9223372036854775807) ∧ Q AEx.normal (St.mk [(3, ow true 1 (List.length x.l) 1), (10, ow true 10 i 1), (11, int i64 (↑i : Int)), (12, ow true 13 (List.length (bitL (T i) k) + 1) 1), (13, int i64 ((↑k : Int) + 1))] [cells false 1 (nth [encPacks x]), cells false (List.length x.l * 1) fun (a : Nat) => outC x a, inO x T 0, inO x T 1, inO x T 2, inO x T 3, inO x T 4, inO x T 5, inO x T 6, inO x T 7, cells false (i * 1) fun (i : Nat) => fz Fz.auto 1 (List.length (memS (T i))) fun (k x : Nat) => natC (memS (T i)) k, dead, cells false 1 (over (fun (j : Nat) => int i64 0) 0 1 fun (x : Nat) => int i64 (↑k : Int)), cells false ((List.length (bitL (T i) k) + 1) * 1) fun (a : Nat) => natC (bitL (T i) (k + 1)) a] g)) ∧ (Nat.testBit (T i) k = false → (-9223372036854775808 ≤ (↑k : Int) + 1 ∧ (↑k : Int) + 1 ≤ 9223372036854775807) ∧ Q AEx.normal (St.mk [(3, ow true 1 (List.length x.l) 1), (10, ow true 10 i 1), (11, int i64 (↑i : Int)), (12, ow true 11 (List.length (bitL (T i) k)) 1), (13, int i64 ((↑k : Int) + 1))] [cells false 1 (nth [encPacks x]), cells false (List.length x.l * 1) fun (a : Nat) => outC x a, inO x T 0, inO x T 1, inO x T 2, inO x T 3, inO x T 4, inO x T 5, inO x T 6, inO x T 7, cells false (i * 1) fun (i : Nat) => fz Fz.auto 1 (List.length (memS (T i))) fun (k x : Nat) => natC (memS (T i)) k, cells false (List.length (bitL (T i) k) * 1) fun (a : Nat) => natC (bitL (T i) k) a] g))) ∧ (decide ((↑k : Int) < (↑(List.length (List.getD x.l i default).l) : Int)) = false → Q (AEx.exit 12) (St.mk [(3, ow true 1 (List.length x.l) 1), (10, ow true 10 i 1), (11, int i64 (↑i : Int)), (12, ow true 11 (List.length (bitL (T i) k)) 1), (13, int i64 (↑k : Int)), (89, AV.bool (decide ((↑k : Int) < (↑(List.length (List.getD x.l i default).l) : Int))))] [cells false 1 (nth [encPacks x]), cells false (List.length x.l * 1) fun (a : Nat) => outC x a, inO x T 0, inO x T 1, inO x T 2, inO x T 3, inO x T 4, inO x T 5, inO x T 6, inO x T 7, cells false (i * 1) fun (i : Nat) => fz Fz.auto 1 (List.length (memS (T i))) fun (k x : Nat) => natC (memS (T i)) k, cells false (List.length (bitL (T i) k) * 1) fun (a : Nat) => natC (bitL (T i) k) a] g))) (fun _ => by kernel_rfl) ⟨(by omega), ⟨(by omega), ⟨fun c1 => have c1 : (↑k : Int) < (↑(List.length (List.getD x.l i default).l) : Int) := (of_decide_eq_true c1); ⟨(by omega), ⟨(by omega), ⟨(by omega), ⟨?_, ⟨fun c2 => ⟨(by omega), ⟨(by omega), ⟨(by omega), ⟨(by omega), ⟨(by omega), ⟨?_, ⟨(by omega), ?_⟩⟩⟩⟩⟩⟩⟩, fun c2 => ⟨(by omega), ?_⟩⟩⟩⟩⟩⟩, fun c1 => have c1 : ¬(↑k : Int) < (↑(List.length (List.getD x.l i default).l) : Int) := (of_decide_eq_false c1); ?_⟩⟩⟩
                · exact opOk_loadK rfl rfl (by kernel_rfl) (getO_hpL (x := x) (L := T) (hi8 (by omega))) (show k + 1 ≤ _ by omega) rfl
                · rw [hsc, if_pos c2]
                  exact fun c hc => natC_append hc
                · rw [if_pos c2] at hsc
                  have hlen1 : (bitL (T i) (k + 1)).length = (bitL (T i) k).length + 1 := by rw [hsc]; simp
                  rw [← hlen1]
                  refine (next_round (k + 1) (to_sel [0, 1, 2, 3, 4, 5, 6, 7, 8, 9, 10, 13] 14 rfl rfl rfl rfl rfl ⟨(Le.refl _), ⟨(Le.refl _), ⟨(Le.refl _), ⟨(Le.refl _), ⟨(Le.refl _), trivial⟩⟩⟩⟩⟩ ⟨⟨rfl, Nat.le_refl _, fun j hj => match j, hj with | 0, _ => (Le.refl _) ⟩, ⟨?_, ⟨?_, ⟨?_, ⟨?_, ⟨?_, ⟨?_, ⟨?_, ⟨?_, ⟨?_, ⟨?_, ⟨?_, trivial⟩⟩⟩⟩⟩⟩⟩⟩⟩⟩⟩⟩) ?_ ?_)
                  · exact outRen h8 rfl rfl rfl rfl rfl rfl rfl rfl
                  all_goals first | exact LeO.refl _ | omega
                · rw [if_neg (by rw [c2]; decide)] at hsc
                  rw [← hsc]
                  refine (next_round (k + 1) (to_fr ⟨(Le.refl _), ⟨(Le.refl _), ⟨(Le.refl _), ⟨(Le.refl _), ⟨(Le.of_eq (by kernel_rfl)), trivial⟩⟩⟩⟩⟩ rfl rfl) ?_ ?_)
                  · omega
                  · omega
                · have hke : k = (x.l.getD i default).l.length := by omega
                  have hall : bitL (T i) k = memS (T i) := by
                    rw [hke]
                    exact bitL_all (hlen5 (by omega)) ((hTs i).2.2)
                  rw [hall]
                  refine ⟨_, To.refl _, (wp_to (to_freeze 11 [3, 10, 11, 12, 13, 89] [] ⟨⟨[(3, ow true 1 (List.length x.l) 1), (10, ow true 10 i 1), (11, int i64 (↑i : Int)), (12, fz Fz.auto 1 (List.length (memS (T i))) fun (i_1 j : Nat) => natC (memS (T i)) (i_1 * 1 + j)), (13, int i64 (↑k : Int)), (89, AV.bool (decide ((↑k : Int) < (↑(List.length (List.getD x.l i default).l) : Int))))], [cells false 1 (nth [encPacks x]), cells false (List.length x.l * 1) fun (a : Nat) => outC x a, inO x T 0, inO x T 1, inO x T 2, inO x T 3, inO x T 4, inO x T 5, inO x T 6, inO x T 7, cells false (i * 1) fun (i : Nat) => fz Fz.auto 1 (List.length (memS (T i))) fun (k x : Nat) => natC (memS (T i)) k, dead], g⟩, _⟩ rfl (by exact show (∀ (j : Nat), j < List.length (memS (T i)) * 1 → Below 0 (int i64 (↑(List.getD (memS (T i)) j 0) : Int))) ∧ True ∧ True ∧ True ∧ Nat.le (List.length (memS (T i)) * 1) (List.length (memS (T i)) * 1) ∧ True ∧ True ∧ True from ⟨(fun _ _ => (by first | exact trivial | apply Go.Avm.Pack.below_natC)), ⟨trivial, ⟨trivial, ⟨trivial, ⟨(by simp at * <;> omega), ⟨trivial, ⟨trivial, trivial⟩⟩⟩⟩⟩⟩⟩)) ?_)⟩
                  refine (wp_to (s' := ⟨[(3, ow true 1 (List.length x.l) 1), (10, ow true 10 i 1), (11, int i64 (↑i : Int)), (12, llC (fun i => memS (T i)) i), (13, int i64 (↑k : Int)), (89, AV.bool (decide ((↑k : Int) < (↑(List.length (List.getD x.l i default).l) : Int))))], [cells false 1 (nth [encPacks x]), cells false (List.length x.l * 1) fun (a : Nat) => outC x a, inO x T 0, inO x T 1, inO x T 2, inO x T 3, inO x T 4, inO x T 5, inO x T 6, inO x T 7, cells false (i * 1) fun (i : Nat) => fz Fz.auto 1 (List.length (memS (T i))) fun (k x : Nat) => natC (memS (T i)) k, dead], g⟩) (to_fr ⟨(Le.refl _), ⟨(Le.refl _), ⟨(Le.refl _), ⟨(leK_ok rfl (fun i j hi hj => ?_)), ⟨(Le.refl _), ⟨(Le.refl _), trivial⟩⟩⟩⟩⟩⟩ rfl rfl) ?_)
                  · rw [show i * 1 + j = i by omega]
                    rfl
                  refine vcQ [] (lkL [(33, [3, 10, 11])]) (lkL [(33, [(3, ROrc.val (Orc.obj (llC fun (i : Nat) => memS (T i))))])]) (fun (Q : AEx → St R.σ → Prop) => 0 < 1 ∧ (i + 1) * 24 ≤ maxRoom ∧ i + 1 ≤ maxRoom ∧ 1 ≤ 1 ∧ i * 1 ≤ i * 1 ∧ (∀ (c : Nat), c < (i + 1) * 1 → (fz Fz.auto 1 (List.length (memS (T c))) fun (k x : Nat) => natC (memS (T c)) k) = plainJ 1 i (fun (i j : Nat) => fz Fz.auto 1 (List.length (memS (T (i * 1 + j)))) fun (k x : Nat) => natC (memS (T (i * 1 + j))) k) (fun (i_1 j : Nat) => over (fun (j : Nat) => fz Fz.nil 0 0 fun (x x_1 : Nat) => any) 0 1 (fun (x : Nat) => fz Fz.auto 1 (List.length (memS (T i))) fun (k x : Nat) => natC (memS (T i)) k) (0 + i_1 * 1 + j)) c) ∧ Q AEx.normal (St.mk [(3, ow true 1 (List.length x.l) 1), (10, ow true 13 (i + 1) 1), (11, int i64 (↑i : Int))] [cells false 1 (nth [encPacks x]), cells false (List.length x.l * 1) fun (a : Nat) => outC x a, inO x T 0, inO x T 1, inO x T 2, inO x T 3, inO x T 4, inO x T 5, inO x T 6, inO x T 7, dead, dead, cells false 1 (over (fun (j : Nat) => fz Fz.nil 0 0 fun (x x_1 : Nat) => any) 0 1 fun (x : Nat) => fz Fz.auto 1 (List.length (memS (T i))) fun (k x : Nat) => natC (memS (T i)) k), cells false ((i + 1) * 1) fun (a : Nat) => fz Fz.auto 1 (List.length (memS (T a))) fun (k x : Nat) => natC (memS (T a)) k] g)) (fun _ => by kernel_rfl) ⟨(by omega), ⟨(by omega), ⟨(by omega), ⟨(by omega), ⟨(by omega), ⟨?_, ?_⟩⟩⟩⟩⟩⟩
                  · intro c hc
                    exact llC_append (l := fun i => memS (T i)) hc
                  · refine vcQ [] (lkL [(26, [3, 10, 11])]) (fun _ => []) (fun (Q : AEx → St R.σ → Prop) => (-9223372036854775808 ≤ (↑i : Int) + 1 ∧ (↑i : Int) + 1 ≤ 9223372036854775807) ∧ Q AEx.normal (St.mk [(3, ow true 1 (List.length x.l) 1), (10, ow true 13 (i + 1) 1), (11, int i64 ((↑i : Int) + 1))] [cells false 1 (nth [encPacks x]), cells false (List.length x.l * 1) fun (a : Nat) => outC x a, inO x T 0, inO x T 1, inO x T 2, inO x T 3, inO x T 4, inO x T 5, inO x T 6, inO x T 7, dead, dead, cells false 1 (over (fun (j : Nat) => fz Fz.nil 0 0 fun (x x_1 : Nat) => any) 0 1 fun (x : Nat) => fz Fz.auto 1 (List.length (memS (T i))) fun (k x : Nat) => natC (memS (T i)) k), cells false ((i + 1) * 1) fun (a : Nat) => fz Fz.auto 1 (List.length (memS (T a))) fun (k x : Nat) => natC (memS (T a)) k] g)) (fun _ => by kernel_rfl) ⟨(by omega), ?_⟩
                    refine (next_round (i + 1) (to_sel [0, 1, 2, 3, 4, 5, 6, 7, 8, 9, 13] 14 rfl rfl rfl rfl rfl ⟨(Le.refl _), ⟨(Le.refl _), ⟨(Le.refl _), trivial⟩⟩⟩ ⟨⟨rfl, Nat.le_refl _, fun j hj => match j, hj with | 0, _ => (Le.refl _) ⟩, ⟨?_, ⟨?_, ⟨?_, ⟨?_, ⟨?_, ⟨?_, ⟨?_, ⟨?_, ⟨?_, ⟨?_, trivial⟩⟩⟩⟩⟩⟩⟩⟩⟩⟩⟩) ?_ ?_)
                    · exact outRen h8 rfl rfl rfl rfl rfl rfl rfl rfl
                    all_goals first | exact LeO.refl _ | omega
            · have hie : i = x.l.length := by omega
              subst hie
              refine ⟨_, To.refl _, vcQ [] (lkL [(34, [2])]) (fun _ => []) (fun (Q : AEx → St R.σ → Prop) => Q AEx.ret (St.mk [(2, ow true 10 (List.length x.l) 1)] [cells false 1 (nth [encPacks x]), cells false (List.length x.l * 1) fun (a : Nat) => outC x a, inO x T 0, inO x T 1, inO x T 2, inO x T 3, inO x T 4, inO x T 5, inO x T 6, inO x T 7, cells false (List.length x.l * 1) fun (i : Nat) => fz Fz.auto 1 (List.length (memS (T i))) fun (k x : Nat) => natC (memS (T i)) k] g)) (fun _ => by kernel_rfl) (?_)⟩
              refine (retQ_le (retQ_frz 0 [10] _ _ rfl trivial (by omega) (by exact ⟨(fun _ _ => trivial), ⟨Nat.le_refl _, trivial⟩⟩) (by exact trivial) (by exact trivial) (by kernel_rfl) rfl rfl) (leK_ok rfl (fun i j hi hj => ?_)))
              show llC (fun i => memS (T i)) (i * 1 + j) = llC (fun i => memS (T i)) i
              rw [show i * 1 + j = i by omega]
end Go.Avm.Pack
namespace Go.Avm.Pack
open Go Go.Avm Go.Proofs
open Go.IntKind (i64 u64)
open Go.Avm.AV (int bool any fz fp sl ow ref fn ifc val agg tup)
open Go.Avm.AObj (cells dead)
open Go.Avm.Oc (ret)
set_option maxRecDepth 4000

theorem c_rTrimL (R : Res) (x : Ix) (L : Nat → KL Int) (hp : List AObj) (g : R.σ) (hs : small x) (hx : formedB x = true) (hL : L = leftI x) : Does Tryd.prog R 12 [encIx x] hp g (.ret (encLs x.l.length L)) hp g := by
  subst hL
  refine does_any' (fun R g => ?_) (by exact ⟨⟨trivial, trivial⟩, trivial⟩) R hp g
  have h := rtrim_raw R x g hs hx
  have e : encLL x.l.length (fun i => memS (trimL x i)) = encLs x.l.length (leftI x) := by
    unfold encLL encLs
    congr 1
    funext i _
    exact (leftI_enc x i).symm
  rw [e] at h
  exact h
theorem c_PackTrims (R : Res) [Tab LT R] (x : Ix) (g : R.σ) : Does Tryd.prog R 3 [encIx x] [] g (.ret (.bool true)) [] g := by
  obtain ⟨L, hL⟩ : ∃ L : Nat → KL Int, L = leftI x := ⟨_, rfl⟩
  have hLl : ∀ j, (L j).l.length < 1000000 := by
    rw [hL]
    intro j
    have := left_len (x := x) (j := j)
    omega
  have hLe : ∀ j, j < x.l.length → (L j).l = (L j).l := fun _ _ => rfl
  cases hs0 : smallB x 8 with
  | false =>
    refine spec_of_wp (nt := 38) (rs := [.tmp 2]) (k0 := 0) (by kernel_rfl) (by kernel_rfl) (by kernel_rfl) rfl ?_
    refine vcQ [] (lkL [(0, [1]), (1, [1, 7]), (2, [2]), (3, [1, 3, 4])]) (lkL [(1, [(1, ROrc.pcall (AV.bool false))]), (2, [(0, ROrc.pcall (AV.bool true))])]) (fun (Q : AEx → St R.σ → Prop) => 1 ≤ 1 ∧ (∀ (hp : List AObj) (g : R.σ), true = true ∧ Does Tryd.prog R 7 [encIx x, int i64 8] hp g (ret (AV.bool false)) hp g) ∧ (true = true → (∀ (hp : List AObj) (g : R.σ), true = true ∧ Does Tryd.prog R 8 [] hp g (ret (AV.bool true)) hp g) ∧ Q AEx.ret (St.mk [(2, AV.bool true)] [cells false 1 (nth [encPacks x])] g)) ∧ (true = false → False)) (fun _ => by kernel_rfl) ⟨(by omega), ⟨(fun _ _ => ⟨rfl, (does_bool hs0 (Go.Avm.Pack.c_Small _ _ _ _ _ (by decide)))⟩), ⟨fun _ => ⟨(fun _ _ => ⟨rfl, (Go.Avm.Pack.c_works _ _ _)⟩), ?_⟩, fun h => (nomatch h)⟩⟩⟩
    refine (retQ_le (retQ_drop _ _ rfl trivial trivial rfl) (Le.refl _))
  | true =>
    obtain ⟨hs, hr⟩ := small_of hs0
    have hn := hs.1
    cases hx : formedB x with
    | false =>
      refine spec_of_wp (nt := 38) (rs := [.tmp 2]) (k0 := 0) (by kernel_rfl) (by kernel_rfl) (by kernel_rfl) rfl ?_
      refine vcQ [] (lkL [(0, [1]), (1, [1, 7]), (2, [2]), (3, [1, 3, 4]), (4, [1, 3, 4, 16]), (5, [2]), (6, [2])]) (lkL [(1, [(1, ROrc.pcall (AV.bool true))]), (2, [(0, ROrc.pcall (AV.bool true))]), (3, [(1, ROrc.pcall (tup 2 (nth [encLs 0 fun (x : Nat) => KL.mk [] Fz.nil, int i64 2])))]), (4, [(1, ROrc.pcall (AV.bool false))]), (5, [(8, ROrc.pcall (AV.bool true))]), (6, [(5, ROrc.pcall (encLs (List.length x.l) L))])]) (fun (Q : AEx → St R.σ → Prop) => 1 ≤ 1 ∧ (∀ (hp : List AObj) (g : R.σ), true = true ∧ Does Tryd.prog R 7 [encIx x, int i64 8] hp g (ret (AV.bool true)) hp g) ∧ (false = true → (∀ (hp : List AObj) (g : R.σ), true = true ∧ Does Tryd.prog R 8 [] hp g (ret (AV.bool true)) hp g) ∧ Q AEx.ret (St.mk [(2, AV.bool true)] [cells false 1 (nth [encPacks x])] g)) ∧ (false = false → 1 ≤ 1 ∧ (∀ (hp : List AObj) (g : R.σ), true = true ∧ Does Tryd.prog R 9 [encIx x] hp g (ret (tup 2 (nth [fz Fz.auto 1 0 fun (i x : Nat) => fz Fz.nil 1 0 fun (i x : Nat) => int i64 (List.getD [] i 0), int i64 2]))) hp g) ∧ 1 ≤ 1 ∧ (∀ (hp : List AObj) (g : R.σ), true = true ∧ Does Tryd.prog R 10 [encIx x] hp g (ret (AV.bool false)) hp g) ∧ (true = true → (true = true → ∀ (hp : List AObj) (g : R.σ), true = true ∧ Does Tryd.prog R 8 [] hp g (ret (AV.bool true)) hp g) ∧ Q AEx.ret (St.mk [(2, AV.bool true)] [cells false 1 (nth [encPacks x])] g)) ∧ (true = false → False))) (fun _ => by kernel_rfl) ⟨(by omega), ⟨(fun _ _ => ⟨rfl, (does_bool hs0 (Go.Avm.Pack.c_Small _ _ _ _ _ (by decide)))⟩), ⟨fun h => (nomatch h), fun _ => ⟨(by omega), ⟨(fun _ _ => ⟨rfl, (Go.Avm.Pack.c_TrimE _ _ _ _ (by omega) (by omega))⟩), ⟨(by omega), ⟨(fun _ _ => ⟨rfl, (does_bool hx (Go.Avm.Pack.c_Index _ _ _ _ (by omega) (by omega)))⟩), ⟨fun _ => ⟨(fun hgd => (fun _ _ => ⟨rfl, (Go.Avm.Pack.c_works _ _ _)⟩)), ?_⟩, fun h => (nomatch h)⟩⟩⟩⟩⟩⟩⟩⟩
      refine (retQ_le (retQ_drop _ _ rfl trivial trivial rfl) (Le.refl _))
    | true =>
      refine spec_of_wp (nt := 38) (rs := [.tmp 2]) (k0 := 0) (by kernel_rfl) (by kernel_rfl) (by kernel_rfl) rfl ?_
      refine vcQ [] (lkL [(0, [1]), (1, [1, 7]), (2, [2]), (3, [1, 3, 4]), (4, [1, 3, 4, 16]), (5, [2]), (6, [2])]) (lkL [(1, [(1, ROrc.pcall (AV.bool true))]), (2, [(0, ROrc.pcall (AV.bool true))]), (3, [(1, ROrc.pcall (tup 2 (nth [encLs (List.length x.l) L, int i64 0])))]), (4, [(1, ROrc.pcall (AV.bool true))]), (5, [(8, ROrc.pcall (AV.bool true))]), (6, [(5, ROrc.pcall (encLs (List.length x.l) L)), (6, ROrc.pcall (AV.bool true)), (9, ROrc.pcall (AV.bool true))])]) (fun (Q : AEx → St R.σ → Prop) => 1 ≤ 1 ∧ (∀ (hp : List AObj) (g : R.σ), true = true ∧ Does Tryd.prog R 7 [encIx x, int i64 8] hp g (ret (AV.bool true)) hp g) ∧ (false = true → (∀ (hp : List AObj) (g : R.σ), true = true ∧ Does Tryd.prog R 8 [] hp g (ret (AV.bool true)) hp g) ∧ Q AEx.ret (St.mk [(2, AV.bool true)] [cells false 1 (nth [encPacks x])] g)) ∧ (false = false → 1 ≤ 1 ∧ (∀ (hp : List AObj) (g : R.σ), true = true ∧ Does Tryd.prog R 9 [encIx x] hp g (ret (tup 2 (nth [encLs (List.length x.l) L, int i64 0]))) hp g) ∧ 1 ≤ 1 ∧ (∀ (hp : List AObj) (g : R.σ), true = true ∧ Does Tryd.prog R 10 [encIx x] hp g (ret (AV.bool true)) hp g) ∧ (false = true → (false = true → ∀ (hp : List AObj) (g : R.σ), true = true ∧ Does Tryd.prog R 8 [] hp g (ret (AV.bool true)) hp g) ∧ Q AEx.ret (St.mk [(2, AV.bool false)] [cells false 1 (nth [encPacks x])] g)) ∧ (false = false → (true = true → 1 ≤ 1) ∧ (true = true → ∀ (hp : List AObj) (g : R.σ), true = true ∧ Does Tryd.prog R 12 [encIx x] hp g (ret (encLs (List.length x.l) L)) hp g) ∧ (true = true → ∀ (hp : List AObj) (g : R.σ), true = true ∧ Does Tryd.prog R 11 [encLs (List.length x.l) L, encLs (List.length x.l) L] hp g (ret (AV.bool true)) hp g) ∧ (true = true → ∀ (hp : List AObj) (g : R.σ), true = true ∧ Does Tryd.prog R 8 [] hp g (ret (AV.bool true)) hp g) ∧ Q AEx.ret (St.mk [(2, AV.bool true)] [cells false 1 (nth [encPacks x])] g)))) (fun _ => by kernel_rfl) ⟨(by omega), ⟨(fun _ _ => ⟨rfl, (does_bool hs0 (Go.Avm.Pack.c_Small _ _ _ _ _ (by decide)))⟩), ⟨fun h => (nomatch h), fun _ => ⟨(by omega), ⟨(fun _ _ => ⟨rfl, (Go.Avm.Pack.c_TrimL _ _ _ _ _ (by omega) (by omega) hL)⟩), ⟨(by omega), ⟨(fun _ _ => ⟨rfl, (does_bool hx (Go.Avm.Pack.c_Index _ _ _ _ (by omega) (by omega)))⟩), ⟨fun h => (nomatch h), fun _ => ⟨(by omega), ⟨(fun hgd => (fun _ _ => ⟨rfl, (Go.Avm.Pack.c_rTrimL _ _ _ _ _ (by omega) (by omega) hL)⟩)), ⟨(fun hgd => (fun _ _ => ⟨rfl, (Go.Avm.Pack.c_SameLists _ _ _ _ _ _ (by omega) (by omega) (by omega) (by omega))⟩)), ⟨(fun hgd => (fun _ _ => ⟨rfl, (Go.Avm.Pack.c_works _ _ _)⟩)), ?_⟩⟩⟩⟩⟩⟩⟩⟩⟩⟩⟩⟩
      refine (retQ_le (retQ_drop _ _ rfl trivial trivial rfl) (Le.refl _))
end Go.Avm.Pack
namespace Go.Proofs.YthaoambmnjfdlaaDoor
open Go Go.Avm Go.Avm.Pack Go.WideShapes Go.ChangeShapes Go.ChangeAt
def packTrims_fill (cs : Array Value) : Obj → Obj
  | .cells _ t frozen => .cells cs t frozen
  | o => o
noncomputable def packTrims_world (os : Os) : World :=
  { World.holding Tryd.prog os ⟨#[], #[], []⟩ with heap := ((World.holding Tryd.prog os ⟨#[], #[], []⟩).heap.modify 0 (packTrims_fill #[.int .u8 0, .int .u8 1, .int .u8 28, .int .u8 2, .int .u8 29, .int .u8 14, .int .u8 24, .int .u8 3, .int .u8 30, .int .u8 22, .int .u8 20, .int .u8 15, .int .u8 25, .int .u8 17, .int .u8 4, .int .u8 8, .int .u8 31, .int .u8 27, .int .u8 13, .int .u8 23, .int .u8 21, .int .u8 19, .int .u8 16, .int .u8 7, .int .u8 26, .int .u8 12, .int .u8 18, .int .u8 6, .int .u8 11, .int .u8 5, .int .u8 10, .int .u8 9])).modify 1 (packTrims_fill #[.int .u8 0, .int .u8 1, .int .u8 56, .int .u8 2, .int .u8 57, .int .u8 49, .int .u8 28, .int .u8 3, .int .u8 61, .int .u8 58, .int .u8 42, .int .u8 50, .int .u8 38, .int .u8 29, .int .u8 17, .int .u8 4, .int .u8 62, .int .u8 47, .int .u8 59, .int .u8 36, .int .u8 45, .int .u8 43, .int .u8 51, .int .u8 22, .int .u8 53, .int .u8 39, .int .u8 33, .int .u8 30, .int .u8 24, .int .u8 18, .int .u8 12, .int .u8 5, .int .u8 63, .int .u8 55, .int .u8 48, .int .u8 27, .int .u8 60, .int .u8 41, .int .u8 37, .int .u8 16, .int .u8 46, .int .u8 35, .int .u8 44, .int .u8 21, .int .u8 52, .int .u8 32, .int .u8 23, .int .u8 11, .int .u8 54, .int .u8 26, .int .u8 40, .int .u8 15, .int .u8 34, .int .u8 20, .int .u8 31, .int .u8 10, .int .u8 25, .int .u8 14, .int .u8 19, .int .u8 9, .int .u8 13, .int .u8 8, .int .u8 7, .int .u8 6]) }
theorem packTrims_met (os : Os) : laidMet Tryd.prog Rows.packTrimsRow.laid ((packTrims_world os).forCall (fun _ _ => 0) ⟨#[], #[.agg #[.slice none 0 0]], []⟩).memory :=
  laidMet_of_run' 8 (by kernel_rfl) (by kernel_rfl)
theorem packTrims_reads (os : Os) {H : Type} (enc : TypeId × Value → H) : ∃ places, DataW.whole enc Tryd.prog ((packTrims_world os).forCall (fun _ _ => 0) ⟨#[], #[.agg #[.slice none 0 0]], []⟩).memory Tryd.f3.params.toList Rows.packTrimsSpec.vars false (#[.agg #[.slice none 0 0]] : Array Value).toList 8 = some ([.agg [.nil]], [], places) :=
  ⟨[], by kernel_rfl⟩
theorem packTrims_tabs (W : World) (h : laidMetH Tryd.prog Rows.packTrimsRow.laid W) : Tabs gsT (memOf W) := by
  have h : laidMet Tryd.prog [("math/bits.deBruijn32tab", Lib.tabData .u8 tab32), ("math/bits.deBruijn64tab", Lib.tabData .u8 tab64)] W := h
  exact tabs_cons (t := 140) (e := 5) (n := 32) (by kernel_rfl) (by kernel_rfl) Tryd.underlying140 Tryd.underlying5 (by kernel_rfl) (by kernel_rfl) h
    (fun h => tabs_cons (t := 141) (e := 5) (n := 64) (by kernel_rfl) (by kernel_rfl) Tryd.underlying141 Tryd.underlying5 (by kernel_rfl) (by kernel_rfl) h (fun _ => tabs_nil))
set_option maxRecDepth 100000 in
theorem packTrims_lifted (os : Os) (started : os.Started) (H : Type) (enc : TypeId × Value → H) (F : Stop.Interp) :
    ReturnsInHanded {} Tryd.checked os 3 .any ((OpenSpec.ofChange Rows.packTrimsSpec).preRow enc Tryd.prog Tryd.f3 Rows.packTrimsRow.domain Rows.packTrimsRow.apart Rows.packTrimsRow.laid) (((OpenSpec.ofChange Rows.packTrimsSpec).at F).post enc Tryd.prog Tryd.f3 Rows.packTrimsRow.apart Rows.packTrimsRow.fresh Rows.packTrimsRow.handsOn Rows.packTrimsRow.again) := by
  obtain ⟨places, hx⟩ := packTrims_reads os enc
  exact law_laid (C := Tryd.checked) (s := Rows.packTrimsSpec) (tb := 4) (gs := gsT) (X := fun l => ∃ a : Ix, True ∧ ∃ l', (l' = []) ∧ l = encIx a :: l') (by kernel_rfl) started (by kernel_rfl) Tryd.func3
    (witness_row_at (enc := enc) (C := Tryd.checked) false (packTrims_world os) #[.agg #[.slice none 0 0]] rfl (by kernel_rfl) (by kernel_rfl) (by kernel_rfl)
      (OpenSpec.preRow_of_cond 8 hx (by kernel_rfl) (fun k hk => by cases hk) (by kernel_rfl) (packTrims_met os)))
    rfl (fun ds h => by
      match ds, h with
      | [_], _ => rfl) (by kernel_rfl)
    (fun t ht => by
      have ht : t ∈ [24] := ht
      simp only [List.mem_cons, List.not_mem_nil, or_false] at ht
      subst ht; exact ⟨by kernel_rfl, of_decide_eq_true (by kernel_rfl)⟩) rfl Tryd.underlying4 packTrims_tabs
    ((args_cons arg_ix args_nil))
    (fun avs ⟨a, ha, _, e0, e1⟩ => by
      subst e0 e1
      exact c_PackTrims (Res.tab gsT) a ())
theorem packTrims_said : Rows.PackTrimsSaid :=
  OpenClaim.holds_of_cond 3 Tryd.f3 rfl rfl rfl rfl rfl rfl rfl ⟨rfl, rfl, rfl, rfl, rfl⟩ rfl rfl rfl rfl rfl (by kernel_rfl) Tryd.func3 (by kernel_rfl)
    (of_decide_eq_true (by kernel_rfl)) (by unfold Func.isWrapper; first | (rw [if_pos (by decide +kernel)]; kernel_rfl) | (rw [if_neg (by decide +kernel)]; exact ⟨rfl, rfl⟩))
    (fun os started H enc _ F => by rw [OpenClaim.pre_eq_preRow]; exact packTrims_lifted os started H enc F)
theorem packTrims_plain (f : FuncId) (fn : Func) (hf : Tryd.pinned.checked.prog.funcNamed "swingle/swinglelaw26.PackTrims" = some f) (hfn : Tryd.pinned.checked.prog.funcs[f]? = some fn) :
    true = Tryd.pinned.checked.prog.looks [] ∧ ∀ (j : Nat) t, fn.params[j]? = some t → Tryd.pinned.checked.prog.wantsStandIn t = false := by
  obtain rfl : f = 3 := Option.some.inj ((show Tryd.prog.funcNamed "swingle/swinglelaw26.PackTrims" = some 3 by kernel_rfl).symm.trans hf) |>.symm
  obtain rfl : fn = Tryd.f3 := (Option.some.inj (Tryd.func3.symm.trans hfn)).symm
  refine ⟨by kernel_rfl, fun j t ht => ?_⟩
  have hm : t ∈ (Tryd.f3.params).toList := Array.mem_toList_iff.2 (Array.mem_of_getElem? ht)
  have hm : t ∈ [24] := hm
  simp only [List.mem_cons, List.not_mem_nil, or_false] at hm
  subst hm
  exact (show Tryd.prog.wantsStandIn 24 = false by kernel_rfl)
theorem packTrims_holds : Rows.PackTrimsCardSaid :=
  Claim7.holds_tied_plain_at .later [] _ _ _ _ packTrims_said (fun _ h => by cases h) (by kernel_rfl) (fun _ h => by cases h) packTrims_row_tie rfl ⟨rfl, rfl⟩ (by kernel_rfl) rfl packTrims_plain (by kernel_rfl)
#print axioms packTrims_holds
end Go.Proofs.YthaoambmnjfdlaaDoor
