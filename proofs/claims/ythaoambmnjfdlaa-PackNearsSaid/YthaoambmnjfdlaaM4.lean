/- Part 4 of the proof: lemmas. -/
import Derived.Test.YthaoambmnjfdlaaM3
namespace Go.Avm.Pack
open Go Go.Avm Go.Proofs
open Go.IntKind (i64 u64)
open Go.Avm.AV (int bool any fz fp sl ow ref fn ifc val agg tup)
open Go.Avm.AObj (cells dead)
open Go.Avm.Oc (ret)
set_option maxRecDepth 4000
theorem check_parts {x : Ix} {gl : List Rng} (h : checkB x gl = true) : formedB x = true ∧ gl.length ≤ 4 ∧ ∀ r ∈ gl, rangedB x r = true := by
  unfold checkB at h
  rw [Bool.and_eq_true, Bool.and_eq_true] at h
  exact ⟨h.1, of_decide_eq_true h.2.1, fun r hr => List.all_eq_true.1 h.2.2 r hr⟩
theorem check_goals {x : Ix} {gl : List Rng} (h : checkB x gl = true) : ∀ r ∈ gl, 0 ≤ r.pack ∧ r.pack < x.l.length := fun r hr => ranged_pack ((check_parts h).2.2 r hr)
def bestP (x : Ix) (gl : List Rng) : List Int := (eachR x gl (clausesOf x gl) (fun (b : List Int) _ _ => (true, b)) (fun b p => (Nat.beq (bestO x gl b p).length 0, bestO x gl b p)) x.l.length [] (fun _ => 0)).2
def bestR (x : Ix) (gl : List Rng) : List Int × Int := if checkB x gl then (bestP x gl, if Nat.beq (bestP x gl).length 0 then 5 else 0) else ([], 2)
theorem nums_mem {c d : Clause} {n : Nat} (h : d ∈ nums c n) : ∃ i, i < n ∧ d = numQ c i := by
  unfold nums at h
  obtain ⟨i, hi, rfl⟩ := List.mem_map.1 h
  exact ⟨i, by simpa using hi, rfl⟩
theorem preL_mem {i : Nat} {l : List Rel} {k : Nat} {c : Clause} (h : c ∈ preL i l k) : ∃ j, j < k ∧ c ∈ relCl i j (l.getD j default) := by
  unfold preL at h
  obtain ⟨j, hj, hc⟩ := List.mem_flatMap.1 h
  exact ⟨j, by simpa using hj, hc⟩
theorem there_all {x : Ix} {gl : List Rng} {c : Clause} (h : c ∈ clausesOf x gl) : thereC x gl c := by
  unfold clausesOf preP at h
  rcases List.mem_append.1 h with h | h
  · obtain ⟨i, hi, rfl⟩ := nums_mem h
    exact .inl ⟨rfl, by show (0 : Int) ≤ i; omega, by show (i : Int) < _; omega⟩
  · obtain ⟨i, hi, hc⟩ := List.mem_flatMap.1 h
    have hi : i < x.l.length := by simpa using hi
    obtain ⟨k, hk, hc⟩ := preL_mem hc
    unfold relCl at hc
    right
    rcases List.mem_append.1 hc with hc | hc
    · obtain ⟨j, hj, rfl⟩ := nums_mem hc
      exact ⟨by show (0 : Int) ≤ (i : Int); omega, by show (i : Int) < _; omega, by show (0 : Int) ≤ (k : Int); omega, by show (k : Int) < ((x.l.getD i default).l.length : Int); omega, by show (0 : Int) ≤ (j : Int); omega, (fun h => by cases h), (fun _ => by show (j : Int) < (((x.l.getD i default).l.getD k default).needs.l.length : Int); omega)⟩
    · obtain ⟨j, hj, rfl⟩ := nums_mem hc
      exact ⟨by show (0 : Int) ≤ (i : Int); omega, by show (i : Int) < _; omega, by show (0 : Int) ≤ (k : Int); omega, by show (k : Int) < ((x.l.getD i default).l.length : Int); omega, by show (0 : Int) ≤ (j : Int); omega, (fun _ => by show (j : Int) < (((x.l.getD i default).l.getD k default).bars.l.length : Int); omega), (fun h => by cases h)⟩
theorem cls_len {x : Ix} {gl : List Rng} (hx : formedB x = true) (hg : gl.length ≤ 4) : (clausesOf x gl).length < 1000000 := by
  have := preP_len hx (m := gl.length) x.l.length (Nat.le_refl _)
  have := (formed_le hx).2
  unfold clausesOf
  omega
theorem c_Best (R : Res) (x : Ix) (gl : KL Rng) (hp : List AObj) (g : R.σ) (hs : small x) (hg : gl.l.length < 1000000) :
    Does Try.prog R 16 [encIx x, encR gl] hp g (.ret (.tup 2 (nth [encI ⟨(bestR x gl.l).1, .auto⟩, .int .i64 (bestR x gl.l).2]))) hp g := by
  refine does_any' (fun R g => ?_) (by exact ⟨⟨trivial, trivial⟩, ⟨trivial, trivial⟩⟩) R hp g
  cases hck : checkB x gl.l with
  | false =>
    have e : bestR x gl.l = ([], 2) := by unfold bestR; rw [hck]; rfl
    rw [e]
    refine spec_of_wp (nt := 23) (rs := [.tmp 4, .tmp 5]) (k0 := 0) (by kernel_rfl) (by kernel_rfl) (by kernel_rfl) rfl ?_
    refine vcQ [] (lkL [(0, [1, 2]), (1, [1, 2, 11]), (2, [4, 5]), (3, [2, 6]), (4, [2, 6, 7]), (5, [7])]) (lkL [(1, [(2, ROrc.pcall (int i64 2))]), (3, [(4, ROrc.val (Orc.obj (nth [encPacks x, encR gl])))]), (5, [(2, ROrc.call (ow true 5 (List.length (clausesOf x gl.l)) 4) [cells false 1 (nth [encPacks x]), cells false 2 (nth [encPacks x, encR gl]), cells false 1 fun (a : Nat) => fz Fz.nil 0 0 fun (x x_1 : Nat) => any, dead, dead, cells false (List.length (clausesOf x gl.l) * 4) (clsL (clausesOf x gl.l))] g)])]) (fun (Q : AEx → St R.σ → Prop) => 1 ≤ 1 ∧ (∀ (hp : List AObj) (g : R.σ), true = true ∧ Does Try.prog R 11 [encIx x, encR gl] hp g (ret (int i64 2)) hp g) ∧ (true = true → Q AEx.ret (St.mk [(4, fz Fz.nil 0 0 fun (x x_2 : Nat) => any), (5, int i64 2)] [cells false 1 (nth [encPacks x])] g)) ∧ (true = false → 1 ≤ 1 ∧ 2 ≤ 2 ∧ (∀ (c : Nat), c < 2 → nth [encPacks x, encR gl] c = over (nth [fz Fz.nil 0 0 fun (x x_2 : Nat) => any, fz Fz.nil 0 0 fun (x x_2 : Nat) => any]) 0 2 (List.brecOn (motive := fun (x : List AV) => Nat → AV) [encPacks x, encR gl] nth._f) c) ∧ False)) (fun _ => by kernel_rfl) ⟨(by omega), ⟨(fun _ _ => ⟨rfl, (Go.Avm.Pack.c_Check_f _ _ _ _ _ (by omega) (by omega) (by omega))⟩), ⟨fun _ => ?_, fun h => (nomatch h)⟩⟩⟩
    refine (retQ_le (retQ_drop _ _ rfl trivial ⟨⟨trivial, trivial⟩, trivial⟩ rfl) (Le.tup (fun j hj => match j, hj with | 0, _ => Le.nil_auto | 1, _ => (Le.of_eq (by kernel_rfl)) )))
  | true =>
    obtain ⟨hx, hg4, hr⟩ := check_parts hck
    have hgl := check_goals hck
    obtain ⟨hx1, h8⟩ := formed_le hx
    have hl : ∀ c ∈ clausesOf x gl.l, thereC x gl.l c := fun c hc => there_all hc
    have hll : (clausesOf x gl.l).length < 1000000 := cls_len hx hg4
    have hc : Does Try.prog R 53 [encMkt x gl, encC ⟨clausesOf x gl.l, .auto⟩, .fn 55 0 (fun _ => .any) 0 (fun _ => .any), .fn 56 0 (nth []) 3 (nth [.ref 1 0, .ref 0 0, .ref 2 0])] [.cells false 1 (nth [encPacks x]), .cells false 2 (nth [encPacks x, encR gl]), .cells false 1 (fun _ => .fz .nil 0 0 (fun _ _ => .any))] g (.ret (.tup 0 (nth []))) [.cells false 1 (nth [encPacks x]), .cells false 2 (nth [encPacks x, encR gl]), .cells false 1 (nth [encI ⟨bestP x gl.l, .auto⟩])] g :=
      does_pre (each_fn x gl ⟨clausesOf x gl.l, .auto⟩ hx hgl hl hll (fun _ => True) (fun (b : List Int) _ _ => (true, b)) (fun b p => (Nat.beq (bestO x gl.l b p).length 0, bestO x gl.l b p)) R (hpB x gl) (fun _ => g) (fun _ _ => rfl) (by kernel_rfl) (by kernel_rfl)
        (fun b p m _ _ _ => c_always R p m _ g) (fun b p _ hp => Best1 R x gl p b g hx1 h8 hp (formed_wfN hx hp) (formed_wfB hx hp) (formed_smallN hx hp) (formed_smallB hx hp) hg hgl) (fun _ _ _ _ _ _ => trivial) (fun _ _ _ _ => trivial) [] trivial)
        ⟨LeO.rflc, LeO.rflc, LeO.box rfl Le.nil_auto, trivial⟩
    cases hb : Nat.beq (bestP x gl.l).length 0 with
    | true =>
      have e : bestR x gl.l = ([], 5) := by unfold bestR; rw [hck, hb, List.eq_nil_of_length_eq_zero (Nat.eq_of_beq_eq_true hb)]; rfl
      rw [e]
      refine spec_of_wp (nt := 23) (rs := [.tmp 4, .tmp 5]) (k0 := 0) (by kernel_rfl) (by kernel_rfl) (by kernel_rfl) rfl ?_
      refine vcQ [] (lkL [(0, [1, 2]), (1, [1, 2, 11]), (2, [4, 5]), (3, [2, 6]), (4, [2, 6, 7]), (5, [7]), (6, [7, 21]), (7, [4, 5]), (8, [4, 5])]) (lkL [(1, [(2, ROrc.pcall (int i64 0))]), (3, [(4, ROrc.val (Orc.obj (nth [encPacks x, encR gl])))]), (5, [(2, ROrc.pcall (encC (KL.mk (clausesOf x gl.l) Fz.auto))), (4, ROrc.callS (tup 0 (nth [])) [(2, cells false 1 (nth [encI (KL.mk (bestP x gl.l) Fz.auto)]))] g)])]) (fun (Q : AEx → St R.σ → Prop) => 1 ≤ 1 ∧ (∀ (hp : List AObj) (g : R.σ), true = true ∧ Does Try.prog R 11 [encIx x, encR gl] hp g (ret (int i64 0)) hp g) ∧ (false = true → Q AEx.ret (St.mk [(4, fz Fz.nil 0 0 fun (x x_2 : Nat) => any), (5, int i64 2)] [cells false 1 (nth [encPacks x])] g)) ∧ (false = false → 1 ≤ 1 ∧ 2 ≤ 2 ∧ (∀ (c : Nat), c < 2 → nth [encPacks x, encR gl] c = over (nth [fz Fz.nil 0 0 fun (x x_2 : Nat) => any, fz Fz.nil 0 0 fun (x x_2 : Nat) => any]) 0 2 (List.brecOn (motive := fun (x : List AV) => Nat → AV) [encPacks x, encR gl] nth._f) c) ∧ Tables.follows Try.prog.toTables Departure.mixedOrders = true ∧ 2 ≤ 2 ∧ 2 ≤ 2 ∧ (∀ (hp : List AObj) (g : R.σ), true = true ∧ Does Try.prog R 54 [encMkt x gl] hp g (ret (fz Fz.auto 4 (List.length (clausesOf x gl.l)) fun (i : Nat) => clC (List.getD (clausesOf x gl.l) i default))) hp g) ∧ (true = true ∧ Does Try.prog R 53 [encMkt x gl, fz Fz.auto 4 (List.length (clausesOf x gl.l)) fun (i : Nat) => clC (List.getD (clausesOf x gl.l) i default), fn 55 0 (fun (x : Nat) => any) 0 fun (x : Nat) => any, fn 56 0 (nth []) 3 (nth [ref 1 0, ref 0 0, ref 2 0])] [cells false 1 (nth [encPacks x]), cells false 2 (nth [encPacks x, encR gl]), cells false 1 fun (a : Nat) => fz Fz.nil 0 0 fun (x x_2 : Nat) => any] g (ret (tup 0 (nth []))) [cells false 1 (nth [encPacks x]), cells false 2 (nth [encPacks x, encR gl]), cells false 1 (nth [fz Fz.auto 1 (List.length (bestP x gl.l)) fun (i x_2 : Nat) => int i64 (List.getD (bestP x gl.l) i 0)])] g) ∧ 1 ≤ 1 ∧ (Nat.beq (List.length (bestP x gl.l)) 0 = true → Q AEx.ret (St.mk [(4, fz Fz.nil 0 0 fun (x x_3 : Nat) => any), (5, int i64 5)] [cells false 1 (nth [encPacks x]), cells false 2 (nth [encPacks x, encR gl]), cells false 1 (nth [fz Fz.auto 1 (List.length (bestP x gl.l)) fun (i x_3 : Nat) => int i64 (List.getD (bestP x gl.l) i 0)])] g)) ∧ (Nat.beq (List.length (bestP x gl.l)) 0 = false → 1 ≤ 1 ∧ Q AEx.ret (St.mk [(4, fz Fz.auto 1 (List.length (bestP x gl.l)) fun (i x_3 : Nat) => int i64 (List.getD (bestP x gl.l) i 0)), (5, int i64 0)] [cells false 1 (nth [encPacks x]), cells false 2 (nth [encPacks x, encR gl]), cells false 1 (nth [fz Fz.auto 1 (List.length (bestP x gl.l)) fun (i x_3 : Nat) => int i64 (List.getD (bestP x gl.l) i 0)])] g)))) (fun _ => by kernel_rfl) ⟨(by omega), ⟨(fun _ _ => ⟨rfl, (Go.Avm.Pack.c_Check_t _ _ _ _ _ (by omega) (by omega) (by omega))⟩), ⟨fun h => (nomatch h), fun _ => ⟨(by omega), ⟨(by omega), ⟨(fun c hc => match c, hc with | 0, _ => (by kernel_rfl) | 1, _ => (by kernel_rfl) ), ⟨(by kernel_rfl), ⟨(by omega), ⟨(by omega), ⟨(fun _ _ => ⟨rfl, (Go.Avm.Pack.c_clausesF _ _ _ _ _ (by omega) (by omega) (by omega))⟩), ⟨⟨rfl, (hc)⟩, ⟨(by omega), ⟨fun _ => ?_, fun hcc => (nomatch (hb.symm.trans hcc))⟩⟩⟩⟩⟩⟩⟩⟩⟩⟩⟩⟩⟩
      refine (retQ_le (retQ_drop _ _ rfl trivial ⟨⟨trivial, trivial⟩, trivial⟩ rfl) (Le.tup (fun j hj => match j, hj with | 0, _ => Le.nil_auto | 1, _ => (Le.of_eq (by kernel_rfl)) )))
    | false =>
      have e : bestR x gl.l = (bestP x gl.l, 0) := by unfold bestR; rw [hck, hb]; rfl
      rw [e]
      refine spec_of_wp (nt := 23) (rs := [.tmp 4, .tmp 5]) (k0 := 0) (by kernel_rfl) (by kernel_rfl) (by kernel_rfl) rfl ?_
      refine vcQ [] (lkL [(0, [1, 2]), (1, [1, 2, 11]), (2, [4, 5]), (3, [2, 6]), (4, [2, 6, 7]), (5, [7]), (6, [7, 21]), (7, [4, 5]), (8, [4, 5])]) (lkL [(1, [(2, ROrc.pcall (int i64 0))]), (3, [(4, ROrc.val (Orc.obj (nth [encPacks x, encR gl])))]), (5, [(2, ROrc.pcall (encC (KL.mk (clausesOf x gl.l) Fz.auto))), (4, ROrc.callS (tup 0 (nth [])) [(2, cells false 1 (nth [encI (KL.mk (bestP x gl.l) Fz.auto)]))] g)])]) (fun (Q : AEx → St R.σ → Prop) => 1 ≤ 1 ∧ (∀ (hp : List AObj) (g : R.σ), true = true ∧ Does Try.prog R 11 [encIx x, encR gl] hp g (ret (int i64 0)) hp g) ∧ (false = true → Q AEx.ret (St.mk [(4, fz Fz.nil 0 0 fun (x x_2 : Nat) => any), (5, int i64 2)] [cells false 1 (nth [encPacks x])] g)) ∧ (false = false → 1 ≤ 1 ∧ 2 ≤ 2 ∧ (∀ (c : Nat), c < 2 → nth [encPacks x, encR gl] c = over (nth [fz Fz.nil 0 0 fun (x x_2 : Nat) => any, fz Fz.nil 0 0 fun (x x_2 : Nat) => any]) 0 2 (List.brecOn (motive := fun (x : List AV) => Nat → AV) [encPacks x, encR gl] nth._f) c) ∧ Tables.follows Try.prog.toTables Departure.mixedOrders = true ∧ 2 ≤ 2 ∧ 2 ≤ 2 ∧ (∀ (hp : List AObj) (g : R.σ), true = true ∧ Does Try.prog R 54 [encMkt x gl] hp g (ret (fz Fz.auto 4 (List.length (clausesOf x gl.l)) fun (i : Nat) => clC (List.getD (clausesOf x gl.l) i default))) hp g) ∧ (true = true ∧ Does Try.prog R 53 [encMkt x gl, fz Fz.auto 4 (List.length (clausesOf x gl.l)) fun (i : Nat) => clC (List.getD (clausesOf x gl.l) i default), fn 55 0 (fun (x : Nat) => any) 0 fun (x : Nat) => any, fn 56 0 (nth []) 3 (nth [ref 1 0, ref 0 0, ref 2 0])] [cells false 1 (nth [encPacks x]), cells false 2 (nth [encPacks x, encR gl]), cells false 1 fun (a : Nat) => fz Fz.nil 0 0 fun (x x_2 : Nat) => any] g (ret (tup 0 (nth []))) [cells false 1 (nth [encPacks x]), cells false 2 (nth [encPacks x, encR gl]), cells false 1 (nth [fz Fz.auto 1 (List.length (bestP x gl.l)) fun (i x_2 : Nat) => int i64 (List.getD (bestP x gl.l) i 0)])] g) ∧ 1 ≤ 1 ∧ (Nat.beq (List.length (bestP x gl.l)) 0 = true → Q AEx.ret (St.mk [(4, fz Fz.nil 0 0 fun (x x_3 : Nat) => any), (5, int i64 5)] [cells false 1 (nth [encPacks x]), cells false 2 (nth [encPacks x, encR gl]), cells false 1 (nth [fz Fz.auto 1 (List.length (bestP x gl.l)) fun (i x_3 : Nat) => int i64 (List.getD (bestP x gl.l) i 0)])] g)) ∧ (Nat.beq (List.length (bestP x gl.l)) 0 = false → 1 ≤ 1 ∧ Q AEx.ret (St.mk [(4, fz Fz.auto 1 (List.length (bestP x gl.l)) fun (i x_3 : Nat) => int i64 (List.getD (bestP x gl.l) i 0)), (5, int i64 0)] [cells false 1 (nth [encPacks x]), cells false 2 (nth [encPacks x, encR gl]), cells false 1 (nth [fz Fz.auto 1 (List.length (bestP x gl.l)) fun (i x_3 : Nat) => int i64 (List.getD (bestP x gl.l) i 0)])] g)))) (fun _ => by kernel_rfl) ⟨(by omega), ⟨(fun _ _ => ⟨rfl, (Go.Avm.Pack.c_Check_t _ _ _ _ _ (by omega) (by omega) (by omega))⟩), ⟨fun h => (nomatch h), fun _ => ⟨(by omega), ⟨(by omega), ⟨(fun c hc => match c, hc with | 0, _ => (by kernel_rfl) | 1, _ => (by kernel_rfl) ), ⟨(by kernel_rfl), ⟨(by omega), ⟨(by omega), ⟨(fun _ _ => ⟨rfl, (Go.Avm.Pack.c_clausesF _ _ _ _ _ (by omega) (by omega) (by omega))⟩), ⟨⟨rfl, (hc)⟩, ⟨(by omega), ⟨fun hcc => (nomatch (hb.symm.trans hcc)), fun _ => ⟨(by omega), ?_⟩⟩⟩⟩⟩⟩⟩⟩⟩⟩⟩⟩⟩⟩
      refine (retQ_le (retQ_drop _ _ rfl trivial ⟨⟨trivial, trivial⟩, trivial⟩ rfl) (Le.of_eq (by kernel_rfl)))
end Go.Avm.Pack
namespace Go.Avm.Pack
open Go Go.Avm Go.Proofs
open Go.IntKind (i64 u64)
open Go.Avm.AV (int bool any fz fp sl ow ref fn ifc val agg tup)
open Go.Avm.AObj (cells dead)
open Go.Avm.Oc (ret)
set_option maxRecDepth 4000
theorem c_rbroken2 (R : Res) (x : Ix) (gl : KL Rng) (c : Clause) (l : KL Int) (many : Nat) (hp : List AObj) (g : R.σ) (hx : formedB x = true) (hgl : ∀ r ∈ gl.l, 0 ≤ r.pack ∧ r.pack < x.l.length) (hc : thereC x gl.l c) (hll : l.l.length = x.l.length) :
    Does Try.prog R 85 [encIx x, encR gl, encCl c, encI l, .int .i64 many] hp g (.ret (.bool (brokenB x gl.l c (planOf l.l x.l.length) many))) hp g :=
  c_rbroken R x gl c l _ many hp g hx hgl hc hll rfl
def cntN (n : Nat) (q : Nat → Bool) : Nat := ((List.range n).filter q).length
theorem cntN_succ (n : Nat) (q : Nat → Bool) : cntN (n + 1) q = cntN n q + if q n then 1 else 0 := by
  unfold cntN
  rw [List.range_succ, List.filter_append, List.length_append]
  cases h : q n <;> simp [h]
theorem cntN_le (n : Nat) (q : Nat → Bool) : cntN n q ≤ n := by
  have := List.length_filter_le q (List.range n)
  simpa [cntN] using this
def diffN (a b : List Int) : Nat := cntN (min a.length b.length) (fun i => a.getD i 0 != b.getD i 0)
theorem c_differs (R : Res) (a b : KL Int) (hp : List AObj) (g : R.σ) (ha : a.l.length < 1000000) (hb : b.l.length < 1000000) : Does Try.prog R 86 [encI a, encI b] hp g (.ret (.int .i64 (diffN a.l b.l))) hp g := by
  refine does_any' (fun R g => ?_) (by exact ⟨trivial, ⟨trivial, trivial⟩⟩) R hp g
  refine spec_of_wp (nt := 31) (rs := [.tmp 4]) (k0 := 0) (by kernel_rfl) (by kernel_rfl) (by kernel_rfl) rfl ?_
  refine vcQ [] (lkL [(0, [0, 1]), (1, [0, 1, 5]), (2, [0, 1, 5, 6])]) (fun _ => []) (fun (Q : AEx → St R.σ → Prop) => Wp Try.prog R 31 0 Rd.top (bodyOf Try.prog 86) [1, 1, 0, 1, 0] (contQ Try.prog R 31 0 Rd.top (bodyOf Try.prog 86) Q [Kont.blk 0, Kont.seq [1, 1, 1]]) (St.mk [(0, encI a), (1, encI b), (5, int i64 0), (6, int i64 0)] [] g)) (fun _ => by kernel_rfl) (?_)
  refine (wp_loop (by kernel_rfl) (fun (k : Nat) => ⟨[(0, encI a), (1, encI b), (5, .int .i64 (cntN k (fun i => a.l.getD i 0 != b.l.getD i 0))), (6, .int .i64 k)], [], g⟩) (fun (k : Nat) => (k ≤ min a.l.length b.l.length)) (fun (k : Nat) => (min a.l.length b.l.length - k)) 0 (to_fr ⟨(Le.refl _), ⟨(Le.refl _), ⟨(Le.of_eq (by kernel_rfl)), ⟨(Le.of_eq (by kernel_rfl)), trivial⟩⟩⟩⟩ rfl rfl) ?_ (fun k hi => ?_))
  · omega
  · have hk := cntN_le k (fun i => a.l.getD i 0 != b.l.getD i 0)
    refine vcQ [] (lkL [(3, [0, 1, 5, 6, 16]), (5, [0, 1, 5, 6, 27]), (6, [0, 1, 5, 6]), (4, [0, 1, 5, 6])]) (fun _ => []) (fun (Q : AEx → St R.σ → Prop) => ((bif decide ((↑k : Int) < (↑(List.length a.l) : Int)) then decide ((↑k : Int) < (↑(List.length b.l) : Int)) else false) = true → Tables.follows Try.prog.toTables Departure.mixedOrders = true ∧ (0 ≤ (↑k : Int) ∧ (↑k : Int) < (↑(List.length a.l) : Int)) ∧ 1 ≤ 1 ∧ (0 ≤ (↑k : Int) ∧ (↑k : Int) < (↑(List.length b.l) : Int)) ∧ 1 ≤ 1 ∧ ((List.getD a.l k 0 != List.getD b.l k 0) = true → (-9223372036854775808 ≤ (↑(cntN k fun (i : Nat) => List.getD a.l i 0 != List.getD b.l i 0) : Int) + 1 ∧ (↑(cntN k fun (i : Nat) => List.getD a.l i 0 != List.getD b.l i 0) : Int) + 1 ≤ 9223372036854775807) ∧ (-9223372036854775808 ≤ (↑k : Int) + 1 ∧ (↑k : Int) + 1 ≤ 9223372036854775807) ∧ Q AEx.normal (St.mk [(0, encI a), (1, encI b), (5, int i64 ((↑(cntN k fun (i : Nat) => List.getD a.l i 0 != List.getD b.l i 0) : Int) + 1)), (6, int i64 ((↑k : Int) + 1))] [] g)) ∧ ((List.getD a.l k 0 != List.getD b.l k 0) = false → (-9223372036854775808 ≤ (↑k : Int) + 1 ∧ (↑k : Int) + 1 ≤ 9223372036854775807) ∧ Q AEx.normal (St.mk [(0, encI a), (1, encI b), (5, int i64 (↑(cntN k fun (i : Nat) => List.getD a.l i 0 != List.getD b.l i 0) : Int)), (6, int i64 ((↑k : Int) + 1))] [] g))) ∧ ((bif decide ((↑k : Int) < (↑(List.length a.l) : Int)) then decide ((↑k : Int) < (↑(List.length b.l) : Int)) else false) = false → Q (AEx.exit 0) (St.mk [(0, encI a), (1, encI b), (5, int i64 (↑(cntN k fun (i : Nat) => List.getD a.l i 0 != List.getD b.l i 0) : Int)), (6, int i64 (↑k : Int)), (16, AV.bool (bif decide ((↑k : Int) < (↑(List.length a.l) : Int)) then decide ((↑k : Int) < (↑(List.length b.l) : Int)) else false))] [] g))) (fun _ => by kernel_rfl) ⟨fun c1 => have c1 : (↑k : Int) < (↑(List.length a.l) : Int) ∧ (↑k : Int) < (↑(List.length b.l) : Int) := ⟨(of_decide_eq_true (cA_t c1).1), (of_decide_eq_true (cA_t c1).2)⟩; ⟨(by kernel_rfl), ⟨(by omega), ⟨(by omega), ⟨(by omega), ⟨(by omega), ⟨fun c2 => have c2 : ¬List.getD a.l k 0 = List.getD b.l k 0 := (bne_iff_ne.mp c2); ⟨(by omega), ⟨(by omega), ?_⟩⟩, fun c2 => have c2 : List.getD a.l k 0 = List.getD b.l k 0 := (bne_eq_false_iff_eq.mp c2); ⟨(by omega), ?_⟩⟩⟩⟩⟩⟩⟩, fun c1 => have c1 : ¬(↑k : Int) < (↑(List.length a.l) : Int) ∨ ¬(↑k : Int) < (↑(List.length b.l) : Int) := ((cA_f c1).imp (fun h => (of_decide_eq_false h)) (fun h => (of_decide_eq_false h))); ?_⟩
    · refine (next_round (k + 1) (to_fr ⟨(Le.refl _), ⟨(Le.refl _), ⟨(Le.of_eq ?_), ⟨(Le.of_eq (by kernel_rfl)), trivial⟩⟩⟩⟩ rfl rfl) ?_ ?_)
      · show AV.int .i64 _ = AV.int .i64 _
        rw [cntN_succ, if_pos (by simpa using c2)]
        congr 1
      · omega
      · omega
    · refine (next_round (k + 1) (to_fr ⟨(Le.refl _), ⟨(Le.refl _), ⟨(Le.of_eq ?_), ⟨(Le.of_eq (by kernel_rfl)), trivial⟩⟩⟩⟩ rfl rfl) ?_ ?_)
      · show AV.int .i64 _ = AV.int .i64 _
        rw [cntN_succ, if_neg (by simpa using c2)]
        congr 1
      · omega
      · omega
    · have e : k = min a.l.length b.l.length := by omega
      rw [e]
      refine ⟨_, To.refl _, vcQ [] (lkL [(7, [4])]) (fun _ => []) (fun (Q : AEx → St R.σ → Prop) => Q AEx.ret (St.mk [(4, int i64 (↑(cntN (min (List.length a.l) (List.length b.l)) fun (i : Nat) => List.getD a.l i 0 != List.getD b.l i 0) : Int))] [] g)) (fun _ => by kernel_rfl) (?_)⟩
      refine (retQ_le (retQ_same' _ _ rfl trivial rfl rfl rfl) (Le.of_eq (by kernel_rfl)))
def noneC (k : Nat) : Nat → AV := fun j => .int .i64 (if j < k then -1 else 0)
theorem None_all (R : Res) (x : Ix) (g : R.σ) (h8 : x.l.length ≤ 8) (h1 : 1 ≤ x.l.length) : Does Try.prog R 58 [encIx x] [] g (.ret (.fz (bif true && Nat.beq x.l.length x.l.length then .exa else .opn) 1 x.l.length (fun i j => noneC x.l.length (0 + i * 1 + j)))) [] g := by
  refine spec_of_wp (nt := 19) (rs := [.tmp 2]) (k0 := 0) (by kernel_rfl) (by kernel_rfl) (by kernel_rfl) rfl ?_
  refine vcQ [] (lkL [(0, [1]), (1, [3]), (2, [3, 4])]) (fun _ => []) (fun (Q : AEx → St R.σ → Prop) => 1 ≤ 1 ∧ 0 ≤ (↑(List.length x.l) : Int) ∧ (↑(List.length x.l) : Int) ≤ (↑(List.length x.l) : Int) ∧ (↑(List.length x.l) : Int) ≤ 140737488355328 ∧ List.length x.l * 8 ≤ maxRoom ∧ Wp Try.prog R 19 0 Rd.top (bodyOf Try.prog 58) [1, 1, 0, 1, 0] (contQ Try.prog R 19 0 Rd.top (bodyOf Try.prog 58) Q [Kont.blk 0, Kont.seq [1, 1, 1]]) (St.mk [(3, sl 1 0 (List.length x.l) (List.length x.l) true 1), (4, int i64 0)] [cells false 1 (nth [encPacks x]), cells false (List.length x.l * 1) fun (j : Nat) => int i64 0] g)) (fun _ => by kernel_rfl) ⟨(by omega), ⟨(by omega), ⟨(by omega), ⟨(by omega), ⟨?_, ?_⟩⟩⟩⟩⟩
  · exact Nat.le_trans (show x.l.length * 8 ≤ 64 by omega) (by decide)
  refine (wp_loop (by kernel_rfl) (fun (k : Nat) => ⟨[(3, sl 1 0 (List.length x.l) (List.length x.l) true 1), (4, .int .i64 k)], [.cells false 1 (nth [encPacks x]), .cells false (x.l.length * 1) (noneC k)], g⟩) (fun (k : Nat) => (k ≤ x.l.length)) (fun (k : Nat) => (x.l.length - k)) 0 (to_le ⟨(Le.refl _), ⟨(Le.of_eq (by kernel_rfl)), trivial⟩⟩ ⟨LeO.rflc, ⟨LeO.rflc, trivial⟩⟩ rfl) ?_ (fun k hi => ?_))
  · omega
  · refine vcQ [] (lkL [(3, [3, 4, 12]), (5, [3, 4]), (4, [3, 4])]) (fun _ => []) (fun (Q : AEx → St R.σ → Prop) => (decide ((↑k : Int) < (↑(List.length x.l) : Int)) = true → (0 ≤ (↑k : Int) ∧ (↑k : Int) < (↑(List.length x.l) : Int)) ∧ k + 1 ≤ List.length x.l * 1 ∧ (-9223372036854775808 ≤ (↑k : Int) + 1 ∧ (↑k : Int) + 1 ≤ 9223372036854775807) ∧ Q AEx.normal (St.mk [(3, sl 1 0 (List.length x.l) (List.length x.l) true 1), (4, int i64 ((↑k : Int) + 1))] [cells false 1 (nth [encPacks x]), cells false (List.length x.l * 1) (over (fun (a : Nat) => int i64 (if a < k then -1 else 0)) k 1 fun (x : Nat) => int i64 (-1))] g)) ∧ (decide ((↑k : Int) < (↑(List.length x.l) : Int)) = false → Q (AEx.exit 0) (St.mk [(3, sl 1 0 (List.length x.l) (List.length x.l) true 1), (4, int i64 (↑k : Int)), (12, AV.bool (decide ((↑k : Int) < (↑(List.length x.l) : Int))))] [cells false 1 (nth [encPacks x]), cells false (List.length x.l * 1) fun (a : Nat) => int i64 (if a < k then -1 else 0)] g))) (fun _ => by kernel_rfl) ⟨fun c1 => have c1 : (↑k : Int) < (↑(List.length x.l) : Int) := (of_decide_eq_true c1); ⟨(by omega), ⟨(by omega), ⟨(by omega), ?_⟩⟩⟩, fun c1 => have c1 : ¬(↑k : Int) < (↑(List.length x.l) : Int) := (of_decide_eq_false c1); ?_⟩
    · refine (next_round (k + 1) (to_le ⟨(Le.refl _), ⟨(Le.of_eq (by kernel_rfl)), trivial⟩⟩ ⟨LeO.rflc, ⟨?_, trivial⟩⟩ rfl) ?_ ?_)
      · refine LeO.cells (fun j hj => ?_)
        rw [over_eq]
        unfold noneC
        by_cases h : j < k
        · rw [if_neg (by omega), if_pos h, if_pos (by omega)]
        · by_cases h2 : j = k
          · rw [if_pos (by omega), if_pos (by omega)]
          · rw [if_neg (by omega), if_neg h, if_neg (by omega)]
      · omega
      · omega
    · have e : k = x.l.length := by omega
      subst e
      refine ⟨_, To.refl _, vcQ [] (lkL [(6, [2])]) (fun _ => []) (fun (Q : AEx → St R.σ → Prop) => Q AEx.ret (St.mk [(2, sl 1 0 (List.length x.l) (List.length x.l) true 1)] [cells false 1 (nth [encPacks x]), cells false (List.length x.l * 1) fun (a : Nat) => int i64 (if a < List.length x.l then -1 else 0)] g)) (fun _ => by kernel_rfl) (?_)⟩
      refine (retQ_le (retQ_frz 0 [1] _ _ rfl trivial (by omega) (by exact ⟨(fun _ _ => trivial), ⟨⟨(by simp at * <;> omega), (by omega)⟩, trivial⟩⟩) (by exact trivial) (by exact trivial) (by kernel_rfl) rfl rfl) (Le.of_eq (by kernel_rfl)))
theorem c_none (R : Res) (x : Ix) (hp : List AObj) (g : R.σ) (h8 : x.l.length ≤ 8) (h1 : 1 ≤ x.l.length) : Does Try.prog R 58 [encIx x] hp g (.ret (encI ⟨planL (fun _ => -1) x.l.length, .auto⟩)) hp g := by
  refine does_any' (fun R g => ?_) (by exact ⟨⟨trivial, trivial⟩, trivial⟩) R hp g
  have h2 := None_all R x g h8 h1
  rw [Nat.beq_refl] at h2
  refine does_conv h2 ⟨Le.refl _, trivial⟩ (fun FM ρ v hv => ?_)
  refine encI_auto (by rw [planL_len]; omega) FM ρ v ?_
  refine leK_ok (k := .exa) (k' := .opn) rfl (f := fun i _ => .int .i64 ((planL (fun _ => -1) x.l.length).getD i 0)) (fun _ _ _ _ => rfl) FM ρ v ?_
  refine encI_eq (fun _ => -1) x.l.length .exa (f := fun i j => noneC x.l.length (0 + i * 1 + j)) (fun i hi => ?_) FM ρ v hv
  show AV.int .i64 (if _ then _ else _) = _
  rw [if_pos (by omega)]
end Go.Avm.Pack
namespace Go.Avm.Pack
open Go Go.Avm Go.Proofs
open Go.IntKind (i64 u64)
open Go.Avm.AV (int bool any fz fp sl ow ref fn ifc val agg tup)
open Go.Avm.AObj (cells dead)
open Go.Avm.Oc (ret)
set_option maxRecDepth 4000
def encS (x : Ix) (gl : KL Rng) (l : KL Clause) (right : Bool) (hv fd : List Int) (far : Int) : AV := .agg 7 (nth [encPacks x, encR gl, encC l, .bool right, encI ⟨hv, .auto⟩, encI ⟨fd, .auto⟩, .int .i64 far])
def grdB (hv : List Int) (s : List Int × Int) : Bool := Nat.beq s.1.length 0 || !(Nat.beq hv.length 0)
def fromR (x : Ix) (gl : List Rng) (l : List Clause) (right : Bool) (hv : List Int) : Nat → List Int × Int → List Int → List Int × Int
  | 0, s, p => if brkB x gl l (planOf p x.l.length) x.l.length then s else if right && !((faultOf x gl (planOf p x.l.length)).1 == 0) then s else
      if Nat.beq s.1.length 0 || decide ((diffN p hv : Int) < s.2) then (p, (diffN p hv : Int)) else s
  | n + 1, s, p => if brkB x gl l (planOf p x.l.length) (x.l.length - (n + 1)) then s else
      (List.range ((x.l.getD (x.l.length - (n + 1)) default).l.length + 1)).foldl (fun s k => if grdB hv s then fromR x gl l right hv n s (p.set (x.l.length - (n + 1)) (itemC (x.l.getD (x.l.length - (n + 1)) default).l.length k)) else s) s
theorem from_zero (R : Res) (x : Ix) (gl : KL Rng) (l : KL Clause) (right : Bool) (hv p : List Int) (fd : List Int) (far : Int) (hp : List AObj) (g : R.σ) (hs : small x) (hg : gl.l.length < 1000000) (hx : formedB x = true) (hgl : ∀ r ∈ gl.l, 0 ≤ r.pack ∧ r.pack < x.l.length) (hl : ∀ c ∈ l.l, thereC x gl.l c) (hll : l.l.length < 1000000)
    (hpl : p.length = x.l.length) (hin : inQ x (planOf p x.l.length) x.l.length) (hhv : hv.length < 1000000) :
    Does Try.prog R 57 [encS x gl l right hv fd far, encI ⟨p, .auto⟩, .int .i64 x.l.length] hp g (.ret (encS x gl l right hv (fromR x gl.l l.l right hv 0 (fd, far) p).1 (fromR x gl.l l.l right hv 0 (fd, far) p).2)) hp g := by
  have h8 := (formed_le hx).2
  have w1 := formed_wfN hx hin
  have w2 := formed_wfB hx hin
  have w3 := formed_smallN hx hin
  have w4 := formed_smallB hx hin
  refine does_any' (fun R g => ?_) (by exact ⟨⟨⟨⟨⟨⟨⟨⟨trivial, trivial⟩, trivial⟩, trivial⟩, trivial⟩, trivial⟩, trivial⟩, trivial⟩, ⟨trivial, ⟨trivial, trivial⟩⟩⟩) R hp g
  refine spec_of_wp (nt := 112) (rs := [.cell 6 94]) (k0 := 0) (by kernel_rfl) (by kernel_rfl) (by kernel_rfl) rfl ?_
  refine vcQ [] (lkL [(0, [1, 2, 3, 6]), (1, [1, 2, 3, 6, 7])]) (fun _ => []) (fun (Q : AEx → St R.σ → Prop) => Wp Try.prog R 112 0 Rd.top (bodyOf Try.prog 57) [1, 0, 1, 0] (contQ Try.prog R 112 0 Rd.top (bodyOf Try.prog 57) Q [Kont.blk 0, Kont.seq [1, 1]]) (St.mk [(1, fz Fz.auto 1 (List.length p) fun (i x : Nat) => int i64 (List.getD p i 0)), (2, int i64 (↑(List.length x.l) : Int)), (3, ref 0 0), (6, ref 1 0), (7, int i64 0)] [cells false 7 (nth [encPacks x, encR gl, encC l, AV.bool right, fz Fz.auto 1 (List.length hv) fun (i x : Nat) => int i64 (List.getD hv i 0), fz Fz.auto 1 (List.length fd) fun (i x : Nat) => int i64 (List.getD fd i 0), int i64 far]), cells false 7 (nth [fz Fz.nil 0 0 fun (x x_1 : Nat) => any, fz Fz.nil 0 0 fun (x x_1 : Nat) => any, fz Fz.nil 0 0 fun (x x_1 : Nat) => any, AV.bool false, fz Fz.nil 0 0 fun (x x_1 : Nat) => any, fz Fz.nil 0 0 fun (x x_1 : Nat) => any, int i64 0])] g)) (fun _ => by kernel_rfl) (?_)
  refine (wp_loop (by kernel_rfl) (fun (k : Nat) => ⟨[(1, fz Fz.auto 1 (List.length p) fun (i x : Nat) => int i64 (List.getD p i 0)), (2, int i64 (↑(List.length x.l) : Int)), (3, ref 0 0), (6, ref 1 0), (7, .int .i64 k)], [cells false 7 (nth [encPacks x, encR gl, encC l, AV.bool right, fz Fz.auto 1 (List.length hv) fun (i x : Nat) => int i64 (List.getD hv i 0), fz Fz.auto 1 (List.length fd) fun (i x : Nat) => int i64 (List.getD fd i 0), int i64 far]), cells false 7 (nth [fz Fz.nil 0 0 fun (x x_1 : Nat) => any, fz Fz.nil 0 0 fun (x x_1 : Nat) => any, fz Fz.nil 0 0 fun (x x_1 : Nat) => any, AV.bool false, fz Fz.nil 0 0 fun (x x_1 : Nat) => any, fz Fz.nil 0 0 fun (x x_1 : Nat) => any, int i64 0])], g⟩) (fun (k : Nat) => (k ≤ l.l.length ∧ ∀ j, j < k → brokenB x gl.l (l.l.getD j default) (planOf p x.l.length) x.l.length = false)) (fun (k : Nat) => (l.l.length - k)) 0 (to_fr ⟨(Le.refl _), ⟨(Le.refl _), ⟨(Le.refl _), ⟨(Le.refl _), ⟨(Le.of_eq (by kernel_rfl)), trivial⟩⟩⟩⟩⟩ rfl rfl) ?_ (fun k hi => ?_))
  · exact ⟨Nat.zero_le _, fun j hj => absurd hj (Nat.not_lt_zero _)⟩
  · obtain ⟨h1, h2⟩ := hi
    refine vcQ [] (lkL [(2, [1, 2, 3, 6, 7, 18]), (4, [1, 2, 3, 6, 7, 32]), (5, [6]), (3, [1, 2, 3, 6, 7])]) (lkL [(4, [(11, ROrc.pcall (AV.bool (brokenB x gl.l (List.getD l.l k default) (planOf (KL.mk p Fz.auto).l (List.length x.l)) (List.length x.l))))]), (5, [(1, ROrc.val (Orc.obj (nth [encPacks x, encR gl, encC l, AV.bool right, fz Fz.auto 1 (List.length hv) fun (i x : Nat) => int i64 (List.getD hv i 0), fz Fz.auto 1 (List.length fd) fun (i x : Nat) => int i64 (List.getD fd i 0), int i64 far])))])]) (fun (Q : AEx → St R.σ → Prop) => 3 ≤ 7 ∧ (decide ((↑k : Int) < (↑(List.length l.l) : Int)) = true → Tables.follows Try.prog.toTables Departure.mixedOrders = true ∧ 1 ≤ 7 ∧ 2 ≤ 7 ∧ 3 ≤ 7 ∧ (0 ≤ (↑k : Int) ∧ (↑k : Int) < (↑(List.length l.l) : Int)) ∧ 4 ≤ 4 ∧ (∀ (hp : List AObj) (g : R.σ), true = true ∧ Does Try.prog R 85 [encIx x, encR gl, encCl (List.getD l.l k default), fz Fz.auto 1 (List.length p) fun (i x : Nat) => int i64 (List.getD p i 0), int i64 (↑(List.length x.l) : Int)] hp g (ret (AV.bool (brokenB x gl.l (List.getD l.l k default) (planOf p (List.length x.l)) (List.length x.l)))) hp g) ∧ (brokenB x gl.l (List.getD l.l k default) (planOf p (List.length x.l)) (List.length x.l) = true → 7 ≤ 7 ∧ 7 ≤ 7 ∧ (∀ (c : Nat), c < 7 → nth [encPacks x, encR gl, encC l, AV.bool right, fz Fz.auto 1 (List.length hv) fun (i x : Nat) => int i64 (List.getD hv i 0), fz Fz.auto 1 (List.length fd) fun (i x : Nat) => int i64 (List.getD fd i 0), int i64 far] c = over (nth [fz Fz.nil 0 0 fun (x x_1 : Nat) => any, fz Fz.nil 0 0 fun (x x_1 : Nat) => any, fz Fz.nil 0 0 fun (x x_1 : Nat) => any, AV.bool false, fz Fz.nil 0 0 fun (x x_1 : Nat) => any, fz Fz.nil 0 0 fun (x x_1 : Nat) => any, int i64 0]) 0 7 (List.brecOn (motive := fun (x : List AV) => Nat → AV) [encPacks x, encR gl, encC l, AV.bool right, fz Fz.auto 1 (List.length hv) fun (i x : Nat) => int i64 (List.getD hv i 0), fz Fz.auto 1 (List.length fd) fun (i x : Nat) => int i64 (List.getD fd i 0), int i64 far] nth._f) c) ∧ Q AEx.ret (St.mk [(6, ref 1 0)] [cells false 7 (nth [encPacks x, encR gl, encC l, AV.bool right, fz Fz.auto 1 (List.length hv) fun (i x : Nat) => int i64 (List.getD hv i 0), fz Fz.auto 1 (List.length fd) fun (i x : Nat) => int i64 (List.getD fd i 0), int i64 far]), cells false 7 (nth [encPacks x, encR gl, encC l, AV.bool right, fz Fz.auto 1 (List.length hv) fun (i x : Nat) => int i64 (List.getD hv i 0), fz Fz.auto 1 (List.length fd) fun (i x : Nat) => int i64 (List.getD fd i 0), int i64 far])] g)) ∧ (brokenB x gl.l (List.getD l.l k default) (planOf p (List.length x.l)) (List.length x.l) = false → (-9223372036854775808 ≤ (↑k : Int) + 1 ∧ (↑k : Int) + 1 ≤ 9223372036854775807) ∧ Q AEx.normal (St.mk [(1, fz Fz.auto 1 (List.length p) fun (i x : Nat) => int i64 (List.getD p i 0)), (2, int i64 (↑(List.length x.l) : Int)), (3, ref 0 0), (6, ref 1 0), (7, int i64 ((↑k : Int) + 1))] [cells false 7 (nth [encPacks x, encR gl, encC l, AV.bool right, fz Fz.auto 1 (List.length hv) fun (i x : Nat) => int i64 (List.getD hv i 0), fz Fz.auto 1 (List.length fd) fun (i x : Nat) => int i64 (List.getD fd i 0), int i64 far]), cells false 7 (nth [fz Fz.nil 0 0 fun (x x_1 : Nat) => any, fz Fz.nil 0 0 fun (x x_1 : Nat) => any, fz Fz.nil 0 0 fun (x x_1 : Nat) => any, AV.bool false, fz Fz.nil 0 0 fun (x x_1 : Nat) => any, fz Fz.nil 0 0 fun (x x_1 : Nat) => any, int i64 0])] g))) ∧ (decide ((↑k : Int) < (↑(List.length l.l) : Int)) = false → Q (AEx.exit 0) (St.mk [(1, fz Fz.auto 1 (List.length p) fun (i x : Nat) => int i64 (List.getD p i 0)), (2, int i64 (↑(List.length x.l) : Int)), (3, ref 0 0), (6, ref 1 0), (7, int i64 (↑k : Int)), (18, AV.bool (decide ((↑k : Int) < (↑(List.length l.l) : Int))))] [cells false 7 (nth [encPacks x, encR gl, encC l, AV.bool right, fz Fz.auto 1 (List.length hv) fun (i x : Nat) => int i64 (List.getD hv i 0), fz Fz.auto 1 (List.length fd) fun (i x : Nat) => int i64 (List.getD fd i 0), int i64 far]), cells false 7 (nth [fz Fz.nil 0 0 fun (x x_1 : Nat) => any, fz Fz.nil 0 0 fun (x x_1 : Nat) => any, fz Fz.nil 0 0 fun (x x_1 : Nat) => any, AV.bool false, fz Fz.nil 0 0 fun (x x_1 : Nat) => any, fz Fz.nil 0 0 fun (x x_1 : Nat) => any, int i64 0])] g))) (fun _ => by kernel_rfl) ⟨(by omega), ⟨fun c1 => have c1 : (↑k : Int) < (↑(List.length l.l) : Int) := (of_decide_eq_true c1); ⟨(by kernel_rfl), ⟨(by omega), ⟨(by omega), ⟨(by omega), ⟨(by omega), ⟨(by omega), ⟨(fun _ _ => ⟨rfl, (Go.Avm.Pack.c_rbroken2 _ _ _ _ (KL.mk p Fz.auto) _ _ _ (by omega) (by omega) ?_ (by omega))⟩), ⟨fun c2 => ⟨(by omega), ⟨(by omega), ⟨(fun c hc => match c, hc with | 0, _ => (by kernel_rfl) | 1, _ => (by kernel_rfl) | 2, _ => (by kernel_rfl) | 3, _ => (by kernel_rfl) | 4, _ => (by kernel_rfl) | 5, _ => (by kernel_rfl) | 6, _ => (by kernel_rfl) ), ?_⟩⟩⟩, fun c2 => ⟨(by omega), ?_⟩⟩⟩⟩⟩⟩⟩⟩⟩, fun c1 => have c1 : ¬(↑k : Int) < (↑(List.length l.l) : Int) := (of_decide_eq_false c1); ?_⟩⟩
    · exact hl _ (getD_mem _ _ (by omega))
    · have hb : brkB x gl.l l.l (planOf p x.l.length) x.l.length = true := any_at (d := default) (j := k) (by omega) c2
      have e : fromR x gl.l l.l right hv 0 (fd, far) p = (fd, far) := by unfold fromR; rw [hb]; rfl
      rw [e]
      refine ⟨_, To.refl _, (retQ_le (retQ_drop (agg 7 (nth [fz x.2 1 (List.length x.l) fun (i x_1 : Nat) => fz (List.getD x.l i default).2 2 (List.length (List.getD x.l i default).l) fun (i_1 : Nat) => relC (List.getD (List.getD x.l i default).l i_1 default), fz gl.2 3 (List.length gl.l) fun (i : Nat) => rngC (List.getD gl.l i default), fz l.2 4 (List.length l.l) fun (i : Nat) => clC (List.getD l.l i default), AV.bool right, fz Fz.auto 1 (List.length hv) fun (i x : Nat) => int i64 (List.getD hv i 0), fz Fz.auto 1 (List.length fd) fun (i x : Nat) => int i64 (List.getD fd i 0), int i64 far])) ([0 + (TyI.mk ((fun (x : TypeInfo) => x.desc) Try.prog.types[93]) Try.prog.types[94].size Try.prog.types[94].bytes (cellA (ofVal (Value.agg #[Value.slice none 0 0, Value.slice none 0 0, Value.slice none 0 0, Value.bool false, Value.slice none 0 0, Value.slice none 0 0, Value.int i64 0]))) (isAggD ((fun (x : TypeInfo) => x.desc) Try.prog.types[93])) (flatTy Try.prog 94)).size ≤ 7]) (by kernel_rfl) (by exact ⟨(by decide), trivial⟩) ⟨⟨⟨⟨⟨⟨⟨trivial, trivial⟩, trivial⟩, trivial⟩, trivial⟩, trivial⟩, trivial⟩, trivial⟩ rfl) (Le.of_eq (by kernel_rfl)))⟩
    · refine (next_round (k + 1) (to_fr ⟨(Le.refl _), ⟨(Le.refl _), ⟨(Le.refl _), ⟨(Le.refl _), ⟨(Le.of_eq (by kernel_rfl)), trivial⟩⟩⟩⟩⟩ rfl rfl) ?_ ?_)
      · refine ⟨by omega, fun j hj => ?_⟩
        rcases Nat.lt_or_ge j k with h | h
        · exact h2 j h
        · have : j = k := by omega
          subst this; exact c2
      · omega
    · have hb : brkB x gl.l l.l (planOf p x.l.length) x.l.length = false := any_none (d := default) (fun j hj => h2 j (by omega))
      have e0 : fromR x gl.l l.l right hv 0 (fd, far) p = if right && !((faultOf x gl.l (planOf p x.l.length)).1 == 0) then (fd, far) else
        if Nat.beq fd.length 0 || decide ((diffN p hv : Int) < far) then (p, (diffN p hv : Int)) else (fd, far) := by unfold fromR; rw [hb]; rfl
      refine ⟨_, To.refl _, vcQ [[1, 1, 1, 1, 1]] (lkL [(6, [1, 2, 3, 6, 37]), (7, [1, 2, 3, 6, 8]), (8, [1, 2, 3, 6, 8, 9]), (17, [1, 3, 6, 11]), (18, [1, 3, 6, 92]), (19, [6]), (20, [1, 3, 6, 13]), (21, [1, 3, 6, 13, 106]), (22, [3, 6])]) (lkL [(17, [(5, ROrc.pcall (tup 2 (nth [int i64 (faultOf x gl.l (planOf (KL.mk p Fz.auto).l (List.length x.l))).fst, int i64 (faultOf x gl.l (planOf (KL.mk p Fz.auto).l (List.length x.l))).snd])))]), (19, [(1, ROrc.val (Orc.obj (nth [encPacks x, encR gl, encC l, AV.bool right, fz Fz.auto 1 (List.length hv) fun (i x : Nat) => int i64 (List.getD hv i 0), fz Fz.auto 1 (List.length fd) fun (i x : Nat) => int i64 (List.getD fd i 0), int i64 far])))]), (20, [(3, ROrc.pcall (int i64 (↑(diffN (KL.mk p Fz.auto).l (KL.mk hv Fz.auto).l) : Int)))]), (22, [(3, ROrc.val (Orc.obj (nth [encPacks x, encR gl, encC l, AV.bool right, fz Fz.auto 1 (List.length hv) fun (i x : Nat) => int i64 (List.getD hv i 0), fz Fz.auto 1 (List.length p) fun (i x : Nat) => int i64 (List.getD p i 0), int i64 far]))), (5, ROrc.val (Orc.obj (nth [encPacks x, encR gl, encC l, AV.bool right, fz Fz.auto 1 (List.length hv) fun (i x : Nat) => int i64 (List.getD hv i 0), fz Fz.auto 1 (List.length p) fun (i x : Nat) => int i64 (List.getD p i 0), int i64 (↑(diffN p hv) : Int)])))])]) (fun (Q : AEx → St R.σ → Prop) => (decide ((↑(List.length x.l) : Int) < (↑(List.length p) : Int)) = true → 1 ≤ 7 ∧ (0 ≤ (↑(List.length x.l) : Int) ∧ (↑(List.length x.l) : Int) < (↑(List.length x.l) : Int)) ∧ 1 ≤ 1 ∧ Wp Try.prog R 112 0 Rd.top (bodyOf Try.prog 57) [1, 1, 0, 1, 0, 1, 0, 1, 0] (contQ Try.prog R 112 0 Rd.top (bodyOf Try.prog 57) Q [Kont.blk 2, Kont.seq [1, 1, 0, 1, 0, 1, 1], Kont.seq [1, 1, 1]]) (St.mk [(1, fz Fz.auto 1 (List.length p) fun (i x : Nat) => int i64 (List.getD p i 0)), (2, int i64 (↑(List.length x.l) : Int)), (3, ref 0 0), (6, ref 1 0), (8, int i64 (↑(List.length (List.getD x.l (List.length x.l) default).l) : Int)), (9, int i64 (↑(List.length (List.getD x.l (List.length x.l) default).l) : Int))] [cells false 7 (nth [encPacks x, encR gl, encC l, AV.bool right, fz Fz.auto 1 (List.length hv) fun (i x : Nat) => int i64 (List.getD hv i 0), fz Fz.auto 1 (List.length fd) fun (i x : Nat) => int i64 (List.getD fd i 0), int i64 far]), cells false 7 (nth [fz Fz.nil 0 0 fun (x x_1 : Nat) => any, fz Fz.nil 0 0 fun (x x_1 : Nat) => any, fz Fz.nil 0 0 fun (x x_1 : Nat) => any, AV.bool false, fz Fz.nil 0 0 fun (x x_1 : Nat) => any, fz Fz.nil 0 0 fun (x x_1 : Nat) => any, int i64 0])] g)) ∧ (decide ((↑(List.length x.l) : Int) < (↑(List.length p) : Int)) = false → 1 ≤ 7 ∧ 2 ≤ 7 ∧ (∀ (hp : List AObj) (g : R.σ), true = true ∧ Does Try.prog R 15 [encIx x, encR gl, fz Fz.auto 1 (List.length p) fun (i x : Nat) => int i64 (List.getD p i 0)] hp g (ret (tup 2 (nth [int i64 (faultOf x gl.l (planOf p (List.length x.l))).fst, int i64 (faultOf x gl.l (planOf p (List.length x.l))).snd]))) hp g) ∧ 4 ≤ 7 ∧ ((bif right then (faultOf x gl.l (planOf p (List.length x.l))).fst != 0 else false) = true → 7 ≤ 7 ∧ 7 ≤ 7 ∧ (∀ (c : Nat), c < 7 → nth [encPacks x, encR gl, encC l, AV.bool right, fz Fz.auto 1 (List.length hv) fun (i x : Nat) => int i64 (List.getD hv i 0), fz Fz.auto 1 (List.length fd) fun (i x : Nat) => int i64 (List.getD fd i 0), int i64 far] c = over (nth [fz Fz.nil 0 0 fun (x x_1 : Nat) => any, fz Fz.nil 0 0 fun (x x_1 : Nat) => any, fz Fz.nil 0 0 fun (x x_1 : Nat) => any, AV.bool false, fz Fz.nil 0 0 fun (x x_1 : Nat) => any, fz Fz.nil 0 0 fun (x x_1 : Nat) => any, int i64 0]) 0 7 (List.brecOn (motive := fun (x : List AV) => Nat → AV) [encPacks x, encR gl, encC l, AV.bool right, fz Fz.auto 1 (List.length hv) fun (i x : Nat) => int i64 (List.getD hv i 0), fz Fz.auto 1 (List.length fd) fun (i x : Nat) => int i64 (List.getD fd i 0), int i64 far] nth._f) c) ∧ Q AEx.ret (St.mk [(6, ref 1 0)] [cells false 7 (nth [encPacks x, encR gl, encC l, AV.bool right, fz Fz.auto 1 (List.length hv) fun (i x : Nat) => int i64 (List.getD hv i 0), fz Fz.auto 1 (List.length fd) fun (i x : Nat) => int i64 (List.getD fd i 0), int i64 far]), cells false 7 (nth [encPacks x, encR gl, encC l, AV.bool right, fz Fz.auto 1 (List.length hv) fun (i x : Nat) => int i64 (List.getD hv i 0), fz Fz.auto 1 (List.length fd) fun (i x : Nat) => int i64 (List.getD fd i 0), int i64 far])] g)) ∧ ((bif right then (faultOf x gl.l (planOf p (List.length x.l))).fst != 0 else false) = false → 5 ≤ 7 ∧ (∀ (hp : List AObj) (g : R.σ), true = true ∧ Does Try.prog R 86 [fz Fz.auto 1 (List.length p) fun (i x : Nat) => int i64 (List.getD p i 0), fz Fz.auto 1 (List.length hv) fun (i x : Nat) => int i64 (List.getD hv i 0)] hp g (ret (int i64 (↑(diffN p hv) : Int))) hp g) ∧ 6 ≤ 7 ∧ ((!Nat.beq (List.length fd) 0) = true → 7 ≤ 7) ∧ ((bif Nat.beq (List.length fd) 0 then true else decide ((↑(diffN p hv) : Int) < far)) = true → 6 ≤ 7 ∧ (∀ (c : Nat), c < 7 → nth [encPacks x, encR gl, encC l, AV.bool right, fz Fz.auto 1 (List.length hv) fun (i x : Nat) => int i64 (List.getD hv i 0), fz Fz.auto 1 (List.length p) fun (i x : Nat) => int i64 (List.getD p i 0), int i64 far] c = over (nth [encPacks x, encR gl, encC l, AV.bool right, fz Fz.auto 1 (List.length hv) fun (i x : Nat) => int i64 (List.getD hv i 0), fz Fz.auto 1 (List.length fd) fun (i x : Nat) => int i64 (List.getD fd i 0), int i64 far]) 5 1 (fun (x : Nat) => fz Fz.auto 1 (List.length p) fun (i x : Nat) => int i64 (List.getD p i 0)) c) ∧ 7 ≤ 7 ∧ (∀ (c : Nat), c < 7 → nth [encPacks x, encR gl, encC l, AV.bool right, fz Fz.auto 1 (List.length hv) fun (i x : Nat) => int i64 (List.getD hv i 0), fz Fz.auto 1 (List.length p) fun (i x : Nat) => int i64 (List.getD p i 0), int i64 (↑(diffN p hv) : Int)] c = over (nth [encPacks x, encR gl, encC l, AV.bool right, fz Fz.auto 1 (List.length hv) fun (i x : Nat) => int i64 (List.getD hv i 0), fz Fz.auto 1 (List.length p) fun (i x : Nat) => int i64 (List.getD p i 0), int i64 far]) 6 1 (fun (x : Nat) => int i64 (↑(diffN p hv) : Int)) c) ∧ Wp Try.prog R 112 0 Rd.top (bodyOf Try.prog 57) [1, 1, 1, 1, 1] (contQ Try.prog R 112 0 Rd.top (bodyOf Try.prog 57) Q []) (St.mk [(3, ref 0 0), (6, ref 1 0)] [cells false 7 (nth [encPacks x, encR gl, encC l, AV.bool right, fz Fz.auto 1 (List.length hv) fun (i x : Nat) => int i64 (List.getD hv i 0), fz Fz.auto 1 (List.length p) fun (i x : Nat) => int i64 (List.getD p i 0), int i64 (↑(diffN p hv) : Int)]), cells false 7 (nth [fz Fz.nil 0 0 fun (x x_1 : Nat) => any, fz Fz.nil 0 0 fun (x x_1 : Nat) => any, fz Fz.nil 0 0 fun (x x_1 : Nat) => any, AV.bool false, fz Fz.nil 0 0 fun (x x_1 : Nat) => any, fz Fz.nil 0 0 fun (x x_1 : Nat) => any, int i64 0])] g)) ∧ ((bif Nat.beq (List.length fd) 0 then true else decide ((↑(diffN p hv) : Int) < far)) = false → Wp Try.prog R 112 0 Rd.top (bodyOf Try.prog 57) [1, 1, 1, 1, 1] (contQ Try.prog R 112 0 Rd.top (bodyOf Try.prog 57) Q []) (St.mk [(1, fz Fz.auto 1 (List.length p) fun (i x : Nat) => int i64 (List.getD p i 0)), (3, ref 0 0), (6, ref 1 0), (13, int i64 (↑(diffN p hv) : Int)), (106, AV.bool (bif Nat.beq (List.length fd) 0 then true else decide ((↑(diffN p hv) : Int) < far)))] [cells false 7 (nth [encPacks x, encR gl, encC l, AV.bool right, fz Fz.auto 1 (List.length hv) fun (i x : Nat) => int i64 (List.getD hv i 0), fz Fz.auto 1 (List.length fd) fun (i x : Nat) => int i64 (List.getD fd i 0), int i64 far]), cells false 7 (nth [fz Fz.nil 0 0 fun (x x_1 : Nat) => any, fz Fz.nil 0 0 fun (x x_1 : Nat) => any, fz Fz.nil 0 0 fun (x x_1 : Nat) => any, AV.bool false, fz Fz.nil 0 0 fun (x x_1 : Nat) => any, fz Fz.nil 0 0 fun (x x_1 : Nat) => any, int i64 0])] g))))) (fun _ => by kernel_rfl) ⟨fun c1 => have c1 : (↑(List.length x.l) : Int) < (↑(List.length p) : Int) := (of_decide_eq_true c1); ⟨(by omega), ⟨(by omega), ⟨(by omega), ?_⟩⟩⟩, fun c1 => have c1 : ¬(↑(List.length x.l) : Int) < (↑(List.length p) : Int) := (of_decide_eq_false c1); ⟨(by omega), ⟨(by omega), ⟨(fun _ _ => ⟨rfl, (Go.Avm.Pack.c_rFault _ _ _ (KL.mk p Fz.auto) _ _ (by omega) (by omega) (by omega) (by assumption) (by omega) (by omega) (by omega) (by omega) (by omega) (by omega))⟩), ⟨(by omega), ⟨fun c2 => have c2 : right = true ∧ ¬(faultOf x gl.l (planOf p (List.length x.l))).fst = 0 := ⟨(cA_t c2).1, (bne_iff_ne.mp (cA_t c2).2)⟩; ⟨(by omega), ⟨(by omega), ⟨(fun c hc => match c, hc with | 0, _ => (by kernel_rfl) | 1, _ => (by kernel_rfl) | 2, _ => (by kernel_rfl) | 3, _ => (by kernel_rfl) | 4, _ => (by kernel_rfl) | 5, _ => (by kernel_rfl) | 6, _ => (by kernel_rfl) ), ?_⟩⟩⟩, fun c2 => have c2 : right = false ∨ (faultOf x gl.l (planOf p (List.length x.l))).fst = 0 := ((cA_f c2).imp (fun h => h) (fun h => (bne_eq_false_iff_eq.mp h))); ⟨(by omega), ⟨(fun _ _ => ⟨rfl, (Go.Avm.Pack.c_differs _ (KL.mk p Fz.auto) (KL.mk hv Fz.auto) _ _ (by simp at * <;> omega) (by omega))⟩), ⟨(by omega), ⟨(by omega), ⟨fun c3 => have c3 : Nat.beq (List.length fd) 0 = true ∨ (↑(diffN p hv) : Int) < far := ((cO_t c3).imp (fun h => h) (fun h => (of_decide_eq_true h))); ⟨(by omega), ⟨(fun c hc => match c, hc with | 0, _ => (by kernel_rfl) | 1, _ => (by kernel_rfl) | 2, _ => (by kernel_rfl) | 3, _ => (by kernel_rfl) | 4, _ => (by kernel_rfl) | 5, _ => (by kernel_rfl) | 6, _ => (by kernel_rfl) ), ⟨(by omega), ⟨(fun c hc => match c, hc with | 0, _ => (by kernel_rfl) | 1, _ => (by kernel_rfl) | 2, _ => (by kernel_rfl) | 3, _ => (by kernel_rfl) | 4, _ => (by kernel_rfl) | 5, _ => (by kernel_rfl) | 6, _ => (by kernel_rfl) ), ?_⟩⟩⟩⟩, fun c3 => have c3 : Nat.beq (List.length fd) 0 = false ∧ ¬(↑(diffN p hv) : Int) < far := ⟨(cO_f c3).1, (of_decide_eq_false (cO_f c3).2)⟩; ?_⟩⟩⟩⟩⟩⟩⟩⟩⟩⟩⟩⟩
      · exfalso
        have c1 : (x.l.length : Int) < (p.length : Int) := c1
        omega
      · have e1 : (right && !((faultOf x gl.l (planOf p x.l.length)).1 == 0)) = true := by simpa using c2
        rw [e1] at e0
        rw [e0]
        refine (retQ_le (retQ_drop (agg 7 (nth [fz x.2 1 (List.length x.l) fun (i x_1 : Nat) => fz (List.getD x.l i default).2 2 (List.length (List.getD x.l i default).l) fun (i_1 : Nat) => relC (List.getD (List.getD x.l i default).l i_1 default), fz gl.2 3 (List.length gl.l) fun (i : Nat) => rngC (List.getD gl.l i default), fz l.2 4 (List.length l.l) fun (i : Nat) => clC (List.getD l.l i default), AV.bool right, fz Fz.auto 1 (List.length hv) fun (i x : Nat) => int i64 (List.getD hv i 0), fz Fz.auto 1 (List.length fd) fun (i x : Nat) => int i64 (List.getD fd i 0), int i64 far])) ([0 + (TyI.mk ((fun (x : TypeInfo) => x.desc) Try.prog.types[93]) Try.prog.types[94].size Try.prog.types[94].bytes (cellA (ofVal (Value.agg #[Value.slice none 0 0, Value.slice none 0 0, Value.slice none 0 0, Value.bool false, Value.slice none 0 0, Value.slice none 0 0, Value.int i64 0]))) (isAggD ((fun (x : TypeInfo) => x.desc) Try.prog.types[93])) (flatTy Try.prog 94)).size ≤ 7]) (by kernel_rfl) (by exact ⟨(by decide), trivial⟩) ⟨⟨⟨⟨⟨⟨⟨trivial, trivial⟩, trivial⟩, trivial⟩, trivial⟩, trivial⟩, trivial⟩, trivial⟩ rfl) (Le.of_eq (by kernel_rfl)))
      · have e1 : (right && !((faultOf x gl.l (planOf p x.l.length)).1 == 0)) = false := by rw [Bool.and_eq_false_iff]; simpa using c2
        rw [e1] at e0
        have e2 : (Nat.beq fd.length 0 || decide ((diffN p hv : Int) < far)) = true := by simpa using c3
        rw [e2] at e0
        rw [e0]
        refine vcQ [] (lkL [(23, [6])]) (lkL [(23, [(1, ROrc.val (Orc.obj (nth [encPacks x, encR gl, encC l, AV.bool right, fz Fz.auto 1 (List.length hv) fun (i x : Nat) => int i64 (List.getD hv i 0), fz Fz.auto 1 (List.length p) fun (i x : Nat) => int i64 (List.getD p i 0), int i64 (↑(diffN p hv) : Int)])))])]) (fun (Q : AEx → St R.σ → Prop) => 7 ≤ 7 ∧ 7 ≤ 7 ∧ (∀ (c : Nat), c < 7 → nth [encPacks x, encR gl, encC l, AV.bool right, fz Fz.auto 1 (List.length hv) fun (i x : Nat) => int i64 (List.getD hv i 0), fz Fz.auto 1 (List.length p) fun (i x : Nat) => int i64 (List.getD p i 0), int i64 (↑(diffN p hv) : Int)] c = over (nth [fz Fz.nil 0 0 fun (x x_1 : Nat) => any, fz Fz.nil 0 0 fun (x x_1 : Nat) => any, fz Fz.nil 0 0 fun (x x_1 : Nat) => any, AV.bool false, fz Fz.nil 0 0 fun (x x_1 : Nat) => any, fz Fz.nil 0 0 fun (x x_1 : Nat) => any, int i64 0]) 0 7 (List.brecOn (motive := fun (x : List AV) => Nat → AV) [encPacks x, encR gl, encC l, AV.bool right, fz Fz.auto 1 (List.length hv) fun (i x : Nat) => int i64 (List.getD hv i 0), fz Fz.auto 1 (List.length p) fun (i x : Nat) => int i64 (List.getD p i 0), int i64 (↑(diffN p hv) : Int)] nth._f) c) ∧ Q AEx.ret (St.mk [(6, ref 1 0)] [cells false 7 (nth [encPacks x, encR gl, encC l, AV.bool right, fz Fz.auto 1 (List.length hv) fun (i x : Nat) => int i64 (List.getD hv i 0), fz Fz.auto 1 (List.length p) fun (i x : Nat) => int i64 (List.getD p i 0), int i64 (↑(diffN p hv) : Int)]), cells false 7 (nth [encPacks x, encR gl, encC l, AV.bool right, fz Fz.auto 1 (List.length hv) fun (i x : Nat) => int i64 (List.getD hv i 0), fz Fz.auto 1 (List.length p) fun (i x : Nat) => int i64 (List.getD p i 0), int i64 (↑(diffN p hv) : Int)])] g)) (fun _ => by kernel_rfl) ⟨(by omega), ⟨(by omega), ⟨(fun c hc => match c, hc with | 0, _ => (by kernel_rfl) | 1, _ => (by kernel_rfl) | 2, _ => (by kernel_rfl) | 3, _ => (by kernel_rfl) | 4, _ => (by kernel_rfl) | 5, _ => (by kernel_rfl) | 6, _ => (by kernel_rfl) ), ?_⟩⟩⟩
        refine (retQ_le (retQ_drop (agg 7 (nth [fz x.2 1 (List.length x.l) fun (i x_1 : Nat) => fz (List.getD x.l i default).2 2 (List.length (List.getD x.l i default).l) fun (i_1 : Nat) => relC (List.getD (List.getD x.l i default).l i_1 default), fz gl.2 3 (List.length gl.l) fun (i : Nat) => rngC (List.getD gl.l i default), fz l.2 4 (List.length l.l) fun (i : Nat) => clC (List.getD l.l i default), AV.bool right, fz Fz.auto 1 (List.length hv) fun (i x : Nat) => int i64 (List.getD hv i 0), fz Fz.auto 1 (List.length p) fun (i x : Nat) => int i64 (List.getD p i 0), int i64 (↑(diffN p hv) : Int)])) ([0 + (TyI.mk ((fun (x : TypeInfo) => x.desc) Try.prog.types[93]) Try.prog.types[94].size Try.prog.types[94].bytes (cellA (ofVal (Value.agg #[Value.slice none 0 0, Value.slice none 0 0, Value.slice none 0 0, Value.bool false, Value.slice none 0 0, Value.slice none 0 0, Value.int i64 0]))) (isAggD ((fun (x : TypeInfo) => x.desc) Try.prog.types[93])) (flatTy Try.prog 94)).size ≤ 7]) (by kernel_rfl) (by exact ⟨(by decide), trivial⟩) ⟨⟨⟨⟨⟨⟨⟨trivial, trivial⟩, trivial⟩, trivial⟩, trivial⟩, trivial⟩, trivial⟩, trivial⟩ rfl) (Le.of_eq (by kernel_rfl)))
      · have e1 : (right && !((faultOf x gl.l (planOf p x.l.length)).1 == 0)) = false := by rw [Bool.and_eq_false_iff]; simpa using c2
        rw [e1] at e0
        have e2 : (Nat.beq fd.length 0 || decide ((diffN p hv : Int) < far)) = false := by simpa using c3
        rw [e2] at e0
        rw [e0]
        refine vcQ [] (lkL [(23, [6])]) (lkL [(23, [(1, ROrc.val (Orc.obj (nth [encPacks x, encR gl, encC l, AV.bool right, fz Fz.auto 1 (List.length hv) fun (i x : Nat) => int i64 (List.getD hv i 0), fz Fz.auto 1 (List.length fd) fun (i x : Nat) => int i64 (List.getD fd i 0), int i64 far])))])]) (fun (Q : AEx → St R.σ → Prop) => 7 ≤ 7 ∧ 7 ≤ 7 ∧ (∀ (c : Nat), c < 7 → nth [encPacks x, encR gl, encC l, AV.bool right, fz Fz.auto 1 (List.length hv) fun (i x : Nat) => int i64 (List.getD hv i 0), fz Fz.auto 1 (List.length fd) fun (i x : Nat) => int i64 (List.getD fd i 0), int i64 far] c = over (nth [fz Fz.nil 0 0 fun (x x_1 : Nat) => any, fz Fz.nil 0 0 fun (x x_1 : Nat) => any, fz Fz.nil 0 0 fun (x x_1 : Nat) => any, AV.bool false, fz Fz.nil 0 0 fun (x x_1 : Nat) => any, fz Fz.nil 0 0 fun (x x_1 : Nat) => any, int i64 0]) 0 7 (List.brecOn (motive := fun (x : List AV) => Nat → AV) [encPacks x, encR gl, encC l, AV.bool right, fz Fz.auto 1 (List.length hv) fun (i x : Nat) => int i64 (List.getD hv i 0), fz Fz.auto 1 (List.length fd) fun (i x : Nat) => int i64 (List.getD fd i 0), int i64 far] nth._f) c) ∧ Q AEx.ret (St.mk [(6, ref 1 0)] [cells false 7 (nth [encPacks x, encR gl, encC l, AV.bool right, fz Fz.auto 1 (List.length hv) fun (i x : Nat) => int i64 (List.getD hv i 0), fz Fz.auto 1 (List.length fd) fun (i x : Nat) => int i64 (List.getD fd i 0), int i64 far]), cells false 7 (nth [encPacks x, encR gl, encC l, AV.bool right, fz Fz.auto 1 (List.length hv) fun (i x : Nat) => int i64 (List.getD hv i 0), fz Fz.auto 1 (List.length fd) fun (i x : Nat) => int i64 (List.getD fd i 0), int i64 far])] g)) (fun _ => by kernel_rfl) ⟨(by omega), ⟨(by omega), ⟨(fun c hc => match c, hc with | 0, _ => (by kernel_rfl) | 1, _ => (by kernel_rfl) | 2, _ => (by kernel_rfl) | 3, _ => (by kernel_rfl) | 4, _ => (by kernel_rfl) | 5, _ => (by kernel_rfl) | 6, _ => (by kernel_rfl) ), ?_⟩⟩⟩
        refine (retQ_le (retQ_drop (agg 7 (nth [fz x.2 1 (List.length x.l) fun (i x_1 : Nat) => fz (List.getD x.l i default).2 2 (List.length (List.getD x.l i default).l) fun (i_1 : Nat) => relC (List.getD (List.getD x.l i default).l i_1 default), fz gl.2 3 (List.length gl.l) fun (i : Nat) => rngC (List.getD gl.l i default), fz l.2 4 (List.length l.l) fun (i : Nat) => clC (List.getD l.l i default), AV.bool right, fz Fz.auto 1 (List.length hv) fun (i x : Nat) => int i64 (List.getD hv i 0), fz Fz.auto 1 (List.length fd) fun (i x : Nat) => int i64 (List.getD fd i 0), int i64 far])) ([0 + (TyI.mk ((fun (x : TypeInfo) => x.desc) Try.prog.types[93]) Try.prog.types[94].size Try.prog.types[94].bytes (cellA (ofVal (Value.agg #[Value.slice none 0 0, Value.slice none 0 0, Value.slice none 0 0, Value.bool false, Value.slice none 0 0, Value.slice none 0 0, Value.int i64 0]))) (isAggD ((fun (x : TypeInfo) => x.desc) Try.prog.types[93])) (flatTy Try.prog 94)).size ≤ 7]) (by kernel_rfl) (by exact ⟨(by decide), trivial⟩) ⟨⟨⟨⟨⟨⟨⟨trivial, trivial⟩, trivial⟩, trivial⟩, trivial⟩, trivial⟩, trivial⟩, trivial⟩ rfl) (Le.of_eq (by kernel_rfl)))
end Go.Avm.Pack
namespace Go.Avm.Pack
open Go Go.Avm Go.Proofs
open Go.IntKind (i64 u64)
open Go.Avm.AV (int bool any fz fp sl ow ref fn ifc val agg tup)
open Go.Avm.AObj (cells dead)
open Go.Avm.Oc (ret)
set_option maxRecDepth 4000
def stepR (x : Ix) (gl : List Rng) (l : List Clause) (right : Bool) (hv : List Int) (n m N : Nat) (p : List Int) (s : List Int × Int) (k : Nat) : List Int × Int := if grdB hv s then fromR x gl l right hv n s (p.set m (itemC N k)) else s
def runR (x : Ix) (gl : List Rng) (l : List Clause) (right : Bool) (hv : List Int) (n m N : Nat) (p : List Int) (s : List Int × Int) (j : Nat) : List Int × Int := (List.range j).foldl (stepR x gl l right hv n m N p) s
theorem runR_succ {x : Ix} {gl : List Rng} {l : List Clause} {right : Bool} {hv : List Int} {n m N : Nat} {p : List Int} {s : List Int × Int} {j : Nat} : runR x gl l right hv n m N p s (j + 1) = stepR x gl l right hv n m N p (runR x gl l right hv n m N p s j) j := by
  unfold runR; rw [List.range_succ, List.foldl_append]; rfl
theorem runR_stop {x : Ix} {gl : List Rng} {l : List Clause} {right : Bool} {hv : List Int} {n m N : Nat} {p : List Int} {s : List Int × Int} {j : Nat} (h : grdB hv (runR x gl l right hv n m N p s j) = false) : ∀ d, runR x gl l right hv n m N p s (j + d) = runR x gl l right hv n m N p s j
  | 0 => rfl
  | d + 1 => by
    rw [show j + (d + 1) = (j + d) + 1 by omega, runR_succ, runR_stop h d]
    unfold stepR
    rw [h]; rfl
theorem fromR_succ {x : Ix} {gl : List Rng} {l : List Clause} {right : Bool} {hv : List Int} {n m N : Nat} {p : List Int} {s : List Int × Int} (hm : x.l.length - (n + 1) = m) (hN : (x.l.getD m default).l.length = N) (hb : brkB x gl l (planOf p x.l.length) m = false) :
    fromR x gl l right hv (n + 1) s p = runR x gl l right hv n m N p s (N + 1) := by
  show (if brkB x gl l (planOf p x.l.length) (x.l.length - (n + 1)) then s else _) = _
  rw [hm, hb, hN]; rfl
def intsC (l : List Int) : Nat → AV := fun a => .int .i64 (l.getD a 0)
theorem set_getD {l : List Int} {m j : Nat} {v : Int} (hj : j < l.length) : (l.set m v).getD j 0 = if j = m then v else l.getD j 0 := by
  rw [List.getD_eq_getElem?_getD, List.getD_eq_getElem?_getD, List.getElem?_set]
  by_cases h : m = j
  · subst h; simp [hj]
  · rw [if_neg h, if_neg (fun e => h e.symm)]
theorem intsF {l : List Int} {n : Nat} (hn : n = l.length) : Le (.fz .auto 1 n (fun i j => intsC l (i * 1 + j))) (encI ⟨l, .auto⟩) := by
  subst hn
  refine leK_ok rfl (fun i j hi hj => ?_)
  have : j = 0 := by omega
  subst this
  show AV.int .i64 _ = AV.int .i64 _
  rw [Nat.mul_one, Nat.add_zero]
theorem planOf_lt {l : List Int} {n i : Nat} (h : i < n) : planOf l n i = l.getD i 0 := if_pos h
theorem inQ_set {x : Ix} {p : List Int} {m : Nat} {v : Int} (hpl : p.length = x.l.length) (hm : m < x.l.length) (hin : inQ x (planOf p x.l.length) m) (h1 : -1 ≤ v) (h2 : v < ((x.l.getD m default).l.length : Int)) : inQ x (planOf (p.set m v) x.l.length) (m + 1) := by
  intro i hi
  rw [planOf_lt (by omega), set_getD (by omega)]
  by_cases h : i = m
  · subst h; rw [if_pos rfl]; exact ⟨h1, h2⟩
  · rw [if_neg h]
    have := hin i (by omega)
    rwa [planOf_lt (by omega)] at this
theorem from_succ (x : Ix) (gl : KL Rng) (l : KL Clause) (right : Bool) (hv : List Int) (hs : small x) (hg : gl.l.length < 1000000) (hx : formedB x = true) (hgl : ∀ r ∈ gl.l, 0 ≤ r.pack ∧ r.pack < x.l.length) (hl : ∀ c ∈ l.l, thereC x gl.l c) (hll : l.l.length < 1000000)
    (hhv : hv.length < 1000000) (n m : Nat) (hm : m + (n + 1) = x.l.length)
    (ih : ∀ (R : Res) (g : R.σ) (p : List Int) (fd : List Int) (far : Int) (hp : List AObj), p.length = x.l.length → inQ x (planOf p x.l.length) (m + 1) → Does Try.prog R 57 [encS x gl l right hv fd far, encI ⟨p, .auto⟩, .int .i64 (m + 1)] hp g (.ret (encS x gl l right hv (fromR x gl.l l.l right hv n (fd, far) p).1 (fromR x gl.l l.l right hv n (fd, far) p).2)) hp g)
    (R : Res) (g : R.σ) (p : List Int) (fd : List Int) (far : Int) (hp : List AObj) (hpl : p.length = x.l.length) (hin : inQ x (planOf p x.l.length) m) :
    Does Try.prog R 57 [encS x gl l right hv fd far, encI ⟨p, .auto⟩, .int .i64 m] hp g (.ret (encS x gl l right hv (fromR x gl.l l.l right hv (n + 1) (fd, far) p).1 (fromR x gl.l l.l right hv (n + 1) (fd, far) p).2)) hp g := by
  have h8 := (formed_le hx).2
  have h5 := formed_five hx (show m < x.l.length by omega)
  obtain ⟨N, hN⟩ : ∃ N, (x.l.getD m default).l.length = N := ⟨_, rfl⟩
  have em : x.l.length - (n + 1) = m := by omega
  refine does_any' (fun R g => ?_) (by exact ⟨⟨⟨⟨⟨⟨⟨⟨trivial, trivial⟩, trivial⟩, trivial⟩, trivial⟩, trivial⟩, trivial⟩, trivial⟩, ⟨trivial, ⟨trivial, trivial⟩⟩⟩) R hp g
  refine spec_of_wp (nt := 112) (rs := [.cell 6 94]) (k0 := 0) (by kernel_rfl) (by kernel_rfl) (by kernel_rfl) rfl ?_
  refine vcQ [] (lkL [(0, [1, 2, 3, 6]), (1, [1, 2, 3, 6, 7])]) (fun _ => []) (fun (Q : AEx → St R.σ → Prop) => Wp Try.prog R 112 0 Rd.top (bodyOf Try.prog 57) [1, 0, 1, 0] (contQ Try.prog R 112 0 Rd.top (bodyOf Try.prog 57) Q [Kont.blk 0, Kont.seq [1, 1]]) (St.mk [(1, fz Fz.auto 1 (List.length p) fun (i x : Nat) => int i64 (List.getD p i 0)), (2, int i64 (↑m : Int)), (3, ref 0 0), (6, ref 1 0), (7, int i64 0)] [cells false 7 (nth [encPacks x, encR gl, encC l, AV.bool right, fz Fz.auto 1 (List.length hv) fun (i x : Nat) => int i64 (List.getD hv i 0), fz Fz.auto 1 (List.length fd) fun (i x : Nat) => int i64 (List.getD fd i 0), int i64 far]), cells false 7 (nth [fz Fz.nil 0 0 fun (x x_1 : Nat) => any, fz Fz.nil 0 0 fun (x x_1 : Nat) => any, fz Fz.nil 0 0 fun (x x_1 : Nat) => any, AV.bool false, fz Fz.nil 0 0 fun (x x_1 : Nat) => any, fz Fz.nil 0 0 fun (x x_1 : Nat) => any, int i64 0])] g)) (fun _ => by kernel_rfl) (?_)
  refine (wp_loop (by kernel_rfl) (fun (k : Nat) => ⟨[(1, fz Fz.auto 1 (List.length p) fun (i x : Nat) => int i64 (List.getD p i 0)), (2, int i64 (↑m : Int)), (3, ref 0 0), (6, ref 1 0), (7, .int .i64 k)], [cells false 7 (nth [encPacks x, encR gl, encC l, AV.bool right, fz Fz.auto 1 (List.length hv) fun (i x : Nat) => int i64 (List.getD hv i 0), fz Fz.auto 1 (List.length fd) fun (i x : Nat) => int i64 (List.getD fd i 0), int i64 far]), cells false 7 (nth [fz Fz.nil 0 0 fun (x x_1 : Nat) => any, fz Fz.nil 0 0 fun (x x_1 : Nat) => any, fz Fz.nil 0 0 fun (x x_1 : Nat) => any, AV.bool false, fz Fz.nil 0 0 fun (x x_1 : Nat) => any, fz Fz.nil 0 0 fun (x x_1 : Nat) => any, int i64 0])], g⟩) (fun (k : Nat) => (k ≤ l.l.length ∧ ∀ j, j < k → brokenB x gl.l (l.l.getD j default) (planOf p x.l.length) m = false)) (fun (k : Nat) => (l.l.length - k)) 0 (to_fr ⟨(Le.refl _), ⟨(Le.refl _), ⟨(Le.refl _), ⟨(Le.refl _), ⟨(Le.of_eq (by kernel_rfl)), trivial⟩⟩⟩⟩⟩ rfl rfl) ?_ (fun k hi => ?_))
  · exact ⟨Nat.zero_le _, fun j hj => absurd hj (Nat.not_lt_zero _)⟩
  · obtain ⟨h1, h2⟩ := hi
    refine vcQ [[1, 1, 1]] (lkL [(2, [1, 2, 3, 6, 7, 18]), (4, [1, 2, 3, 6, 7, 32]), (5, [6]), (3, [1, 2, 3, 6, 7])]) (lkL [(4, [(11, ROrc.pcall (AV.bool (brokenB x gl.l (List.getD l.l k default) (planOf (KL.mk p Fz.auto).l (List.length x.l)) m)))]), (5, [(1, ROrc.val (Orc.obj (nth [encPacks x, encR gl, encC l, AV.bool right, fz Fz.auto 1 (List.length hv) fun (i x : Nat) => int i64 (List.getD hv i 0), fz Fz.auto 1 (List.length fd) fun (i x : Nat) => int i64 (List.getD fd i 0), int i64 far])))])]) (fun (Q : AEx → St R.σ → Prop) => 3 ≤ 7 ∧ (decide ((↑k : Int) < (↑(List.length l.l) : Int)) = true → Tables.follows Try.prog.toTables Departure.mixedOrders = true ∧ 1 ≤ 7 ∧ 2 ≤ 7 ∧ 3 ≤ 7 ∧ (0 ≤ (↑k : Int) ∧ (↑k : Int) < (↑(List.length l.l) : Int)) ∧ 4 ≤ 4 ∧ (∀ (hp : List AObj) (g : R.σ), true = true ∧ Does Try.prog R 85 [encIx x, encR gl, encCl (List.getD l.l k default), fz Fz.auto 1 (List.length p) fun (i x : Nat) => int i64 (List.getD p i 0), int i64 (↑m : Int)] hp g (ret (AV.bool (brokenB x gl.l (List.getD l.l k default) (planOf p (List.length x.l)) m))) hp g) ∧ (brokenB x gl.l (List.getD l.l k default) (planOf p (List.length x.l)) m = true → 7 ≤ 7 ∧ 7 ≤ 7 ∧ (∀ (c : Nat), c < 7 → nth [encPacks x, encR gl, encC l, AV.bool right, fz Fz.auto 1 (List.length hv) fun (i x : Nat) => int i64 (List.getD hv i 0), fz Fz.auto 1 (List.length fd) fun (i x : Nat) => int i64 (List.getD fd i 0), int i64 far] c = over (nth [fz Fz.nil 0 0 fun (x x_1 : Nat) => any, fz Fz.nil 0 0 fun (x x_1 : Nat) => any, fz Fz.nil 0 0 fun (x x_1 : Nat) => any, AV.bool false, fz Fz.nil 0 0 fun (x x_1 : Nat) => any, fz Fz.nil 0 0 fun (x x_1 : Nat) => any, int i64 0]) 0 7 (List.brecOn (motive := fun (x : List AV) => Nat → AV) [encPacks x, encR gl, encC l, AV.bool right, fz Fz.auto 1 (List.length hv) fun (i x : Nat) => int i64 (List.getD hv i 0), fz Fz.auto 1 (List.length fd) fun (i x : Nat) => int i64 (List.getD fd i 0), int i64 far] nth._f) c) ∧ Q AEx.ret (St.mk [(6, ref 1 0)] [cells false 7 (nth [encPacks x, encR gl, encC l, AV.bool right, fz Fz.auto 1 (List.length hv) fun (i x : Nat) => int i64 (List.getD hv i 0), fz Fz.auto 1 (List.length fd) fun (i x : Nat) => int i64 (List.getD fd i 0), int i64 far]), cells false 7 (nth [encPacks x, encR gl, encC l, AV.bool right, fz Fz.auto 1 (List.length hv) fun (i x : Nat) => int i64 (List.getD hv i 0), fz Fz.auto 1 (List.length fd) fun (i x : Nat) => int i64 (List.getD fd i 0), int i64 far])] g)) ∧ (brokenB x gl.l (List.getD l.l k default) (planOf p (List.length x.l)) m = false → (-9223372036854775808 ≤ (↑k : Int) + 1 ∧ (↑k : Int) + 1 ≤ 9223372036854775807) ∧ Q AEx.normal (St.mk [(1, fz Fz.auto 1 (List.length p) fun (i x : Nat) => int i64 (List.getD p i 0)), (2, int i64 (↑m : Int)), (3, ref 0 0), (6, ref 1 0), (7, int i64 ((↑k : Int) + 1))] [cells false 7 (nth [encPacks x, encR gl, encC l, AV.bool right, fz Fz.auto 1 (List.length hv) fun (i x : Nat) => int i64 (List.getD hv i 0), fz Fz.auto 1 (List.length fd) fun (i x : Nat) => int i64 (List.getD fd i 0), int i64 far]), cells false 7 (nth [fz Fz.nil 0 0 fun (x x_1 : Nat) => any, fz Fz.nil 0 0 fun (x x_1 : Nat) => any, fz Fz.nil 0 0 fun (x x_1 : Nat) => any, AV.bool false, fz Fz.nil 0 0 fun (x x_1 : Nat) => any, fz Fz.nil 0 0 fun (x x_1 : Nat) => any, int i64 0])] g))) ∧ (decide ((↑k : Int) < (↑(List.length l.l) : Int)) = false → Q (AEx.exit 0) (St.mk [(1, fz Fz.auto 1 (List.length p) fun (i x : Nat) => int i64 (List.getD p i 0)), (2, int i64 (↑m : Int)), (3, ref 0 0), (6, ref 1 0), (7, int i64 (↑k : Int)), (18, AV.bool (decide ((↑k : Int) < (↑(List.length l.l) : Int))))] [cells false 7 (nth [encPacks x, encR gl, encC l, AV.bool right, fz Fz.auto 1 (List.length hv) fun (i x : Nat) => int i64 (List.getD hv i 0), fz Fz.auto 1 (List.length fd) fun (i x : Nat) => int i64 (List.getD fd i 0), int i64 far]), cells false 7 (nth [fz Fz.nil 0 0 fun (x x_1 : Nat) => any, fz Fz.nil 0 0 fun (x x_1 : Nat) => any, fz Fz.nil 0 0 fun (x x_1 : Nat) => any, AV.bool false, fz Fz.nil 0 0 fun (x x_1 : Nat) => any, fz Fz.nil 0 0 fun (x x_1 : Nat) => any, int i64 0])] g))) (fun _ => by kernel_rfl) ⟨(by omega), ⟨fun c1 => have c1 : (↑k : Int) < (↑(List.length l.l) : Int) := (of_decide_eq_true c1); ⟨(by kernel_rfl), ⟨(by omega), ⟨(by omega), ⟨(by omega), ⟨(by omega), ⟨(by omega), ⟨(fun _ _ => ⟨rfl, (Go.Avm.Pack.c_rbroken2 _ _ _ _ (KL.mk p Fz.auto) _ _ _ (by omega) (by omega) ?_ (by omega))⟩), ⟨fun c2 => ⟨(by omega), ⟨(by omega), ⟨(fun c hc => match c, hc with | 0, _ => (by kernel_rfl) | 1, _ => (by kernel_rfl) | 2, _ => (by kernel_rfl) | 3, _ => (by kernel_rfl) | 4, _ => (by kernel_rfl) | 5, _ => (by kernel_rfl) | 6, _ => (by kernel_rfl) ), ?_⟩⟩⟩, fun c2 => ⟨(by omega), ?_⟩⟩⟩⟩⟩⟩⟩⟩⟩, fun c1 => have c1 : ¬(↑k : Int) < (↑(List.length l.l) : Int) := (of_decide_eq_false c1); ?_⟩⟩
    · exact hl _ (getD_mem _ _ (by omega))
    · have hb : brkB x gl.l l.l (planOf p x.l.length) m = true := any_at (d := default) (j := k) (by omega) c2
      have e : fromR x gl.l l.l right hv (n + 1) (fd, far) p = (fd, far) := by unfold fromR; rw [em, hb]; rfl
      rw [e]
      refine ⟨_, To.refl _, (retQ_le (retQ_drop (agg 7 (nth [fz x.2 1 (List.length x.l) fun (i x_1 : Nat) => fz (List.getD x.l i default).2 2 (List.length (List.getD x.l i default).l) fun (i_1 : Nat) => relC (List.getD (List.getD x.l i default).l i_1 default), fz gl.2 3 (List.length gl.l) fun (i : Nat) => rngC (List.getD gl.l i default), fz l.2 4 (List.length l.l) fun (i : Nat) => clC (List.getD l.l i default), AV.bool right, fz Fz.auto 1 (List.length hv) fun (i x : Nat) => int i64 (List.getD hv i 0), fz Fz.auto 1 (List.length fd) fun (i x : Nat) => int i64 (List.getD fd i 0), int i64 far])) ([0 + (TyI.mk ((fun (x : TypeInfo) => x.desc) Try.prog.types[93]) Try.prog.types[94].size Try.prog.types[94].bytes (cellA (ofVal (Value.agg #[Value.slice none 0 0, Value.slice none 0 0, Value.slice none 0 0, Value.bool false, Value.slice none 0 0, Value.slice none 0 0, Value.int i64 0]))) (isAggD ((fun (x : TypeInfo) => x.desc) Try.prog.types[93])) (flatTy Try.prog 94)).size ≤ 7]) (by kernel_rfl) (by exact ⟨(by decide), trivial⟩) ⟨⟨⟨⟨⟨⟨⟨trivial, trivial⟩, trivial⟩, trivial⟩, trivial⟩, trivial⟩, trivial⟩, trivial⟩ rfl) (Le.of_eq (by kernel_rfl)))⟩
    · refine (next_round (k + 1) (to_fr ⟨(Le.refl _), ⟨(Le.refl _), ⟨(Le.refl _), ⟨(Le.refl _), ⟨(Le.of_eq (by kernel_rfl)), trivial⟩⟩⟩⟩⟩ rfl rfl) ?_ ?_)
      · refine ⟨by omega, fun j hj => ?_⟩
        rcases Nat.lt_or_ge j k with h | h
        · exact h2 j h
        · have : j = k := by omega
          subst this; exact c2
      · omega
    · have hb : brkB x gl.l l.l (planOf p x.l.length) m = false := any_none (d := default) (fun j hj => h2 j (by omega))
      rw [fromR_succ em hN hb]
      obtain ⟨S, hS⟩ : ∃ S, runR x gl.l l.l right hv n m N p (fd, far) = S := ⟨_, rfl⟩
      rw [hS]
      refine ⟨_, To.refl _, vcQ [[1, 1, 1]] (lkL [(6, [1, 2, 3, 6, 37]), (7, [1, 2, 3, 6, 8]), (8, [1, 2, 3, 6, 8, 9])]) (fun _ => []) (fun (Q : AEx → St R.σ → Prop) => (decide ((↑m : Int) < (↑(List.length p) : Int)) = true → 1 ≤ 7 ∧ (0 ≤ (↑m : Int) ∧ (↑m : Int) < (↑(List.length x.l) : Int)) ∧ 1 ≤ 1 ∧ Wp Try.prog R 112 0 Rd.top (bodyOf Try.prog 57) [1, 1, 0, 1, 0, 1, 0, 1, 0] (contQ Try.prog R 112 0 Rd.top (bodyOf Try.prog 57) Q [Kont.blk 2, Kont.seq [1, 1, 0, 1, 0, 1, 1], Kont.seq [1, 1, 1]]) (St.mk [(1, fz Fz.auto 1 (List.length p) fun (i x : Nat) => int i64 (List.getD p i 0)), (2, int i64 (↑m : Int)), (3, ref 0 0), (6, ref 1 0), (8, int i64 (↑(List.length (List.getD x.l m default).l) : Int)), (9, int i64 (↑(List.length (List.getD x.l m default).l) : Int))] [cells false 7 (nth [encPacks x, encR gl, encC l, AV.bool right, fz Fz.auto 1 (List.length hv) fun (i x : Nat) => int i64 (List.getD hv i 0), fz Fz.auto 1 (List.length fd) fun (i x : Nat) => int i64 (List.getD fd i 0), int i64 far]), cells false 7 (nth [fz Fz.nil 0 0 fun (x x_1 : Nat) => any, fz Fz.nil 0 0 fun (x x_1 : Nat) => any, fz Fz.nil 0 0 fun (x x_1 : Nat) => any, AV.bool false, fz Fz.nil 0 0 fun (x x_1 : Nat) => any, fz Fz.nil 0 0 fun (x x_1 : Nat) => any, int i64 0])] g)) ∧ (decide ((↑m : Int) < (↑(List.length p) : Int)) = false → Wp Try.prog R 112 0 Rd.top (bodyOf Try.prog 57) [1, 1, 1] (contQ Try.prog R 112 0 Rd.top (bodyOf Try.prog 57) Q []) (St.mk [(1, fz Fz.auto 1 (List.length p) fun (i x : Nat) => int i64 (List.getD p i 0)), (2, int i64 (↑m : Int)), (3, ref 0 0), (6, ref 1 0), (37, AV.bool (decide ((↑m : Int) < (↑(List.length p) : Int))))] [cells false 7 (nth [encPacks x, encR gl, encC l, AV.bool right, fz Fz.auto 1 (List.length hv) fun (i x : Nat) => int i64 (List.getD hv i 0), fz Fz.auto 1 (List.length fd) fun (i x : Nat) => int i64 (List.getD fd i 0), int i64 far]), cells false 7 (nth [fz Fz.nil 0 0 fun (x x_1 : Nat) => any, fz Fz.nil 0 0 fun (x x_1 : Nat) => any, fz Fz.nil 0 0 fun (x x_1 : Nat) => any, AV.bool false, fz Fz.nil 0 0 fun (x x_1 : Nat) => any, fz Fz.nil 0 0 fun (x x_1 : Nat) => any, int i64 0])] g))) (fun _ => by kernel_rfl) ⟨fun c1 => have c1 : (↑m : Int) < (↑(List.length p) : Int) := (of_decide_eq_true c1); ⟨(by omega), ⟨(by omega), ⟨(by omega), ?_⟩⟩⟩, fun c1 => have c1 : ¬(↑m : Int) < (↑(List.length p) : Int) := (of_decide_eq_false c1); ?_⟩⟩
      · refine (wp_loop (by kernel_rfl) (fun (j : Nat) => ⟨[(1, fz Fz.auto 1 (List.length p) fun (i x : Nat) => int i64 (List.getD p i 0)), (2, int i64 (↑m : Int)), (3, ref 0 0), (6, ref 1 0), (8, int i64 (↑(List.length (List.getD x.l m default).l) : Int)), (9, .int .i64 ((N : Int) - j))], [.cells false 7 (nth [encPacks x, encR gl, encC l, .bool right, encI ⟨hv, .auto⟩, encI ⟨(S j).1, .auto⟩, .int .i64 (S j).2]), .cells false 7 (fun _ => .any)], g⟩) (fun (j : Nat) => (j ≤ N + 1)) (fun (j : Nat) => (N + 1 - j)) 0 (to_le ⟨(Le.refl _), ⟨(Le.refl _), ⟨(Le.refl _), ⟨(Le.refl _), ⟨(Le.refl _), ⟨(Le.of_eq ?_), trivial⟩⟩⟩⟩⟩⟩ ⟨(LeO.cells (fun j hj => ?_)), ⟨⟨rfl, Nat.le_refl _, fun j hj => match j, hj with | 0, _ => (Le.any _) | 1, _ => (Le.any _) | 2, _ => (Le.any _) | 3, _ => (Le.any _) | 4, _ => (Le.any _) | 5, _ => (Le.any _) | 6, _ => (Le.any _) ⟩, trivial⟩⟩ rfl) ?_ (fun j hi => ?_))
        · show AV.int .i64 _ = AV.int .i64 _
          rw [hN]; congr 1
        · rw [show S 0 = (fd, far) by rw [← hS]; rfl]
          rfl
        · omega
        · have hj1 : m < p.length := by omega
          have hit0 : j = 0 → itemC N j = -1 := fun h => by subst h; rfl
          have hit1 : j ≠ 0 → itemC N j = (N : Int) - j := fun h => by
            cases j with
            | zero => exact absurd rfl h
            | succ j => rfl
          have hin' : j < N + 1 → inQ x (planOf (p.set m (itemC N j)) x.l.length) (m + 1) := fun hj => by
            have := itemC_in (n := N) (k := j) hj
            exact inQ_set hpl (by omega) hin this.1 (by rw [hN]; exact this.2)
          have hS1 : grdB hv (S j) = true → S (j + 1) = fromR x gl.l l.l right hv n (S j) (p.set m (itemC N j)) := fun hg => by
            rw [← hS, runR_succ, hS]
            unfold stepR
            rw [hg]; rfl
          refine vcQ [[1, 1, 0, 1, 0, 1, 0, 1, 0, 0, 1, 0, 0, 1, 1, 1]] (lkL [(9, [1, 2, 3, 6, 8, 9, 57]), (11, [1, 2, 3, 6, 8, 9, 10]), (12, [1, 2, 3, 6, 8, 9, 10]), (13, [1, 2, 3, 6, 8, 9, 10, 68]), (14, [1, 2, 3, 6, 8, 9, 10])]) (fun _ => []) (fun (Q : AEx → St R.σ → Prop) => (decide ((↑N : Int) - (↑j : Int) ≥ 0) = true → 6 ≤ 7) ∧ ((decide ((↑N : Int) - (↑j : Int) ≥ 0) && !Nat.beq (List.length (S j).fst) 0) = true → 5 ≤ 7) ∧ ((bif decide ((↑N : Int) - (↑j : Int) ≥ 0) then bif Nat.beq (List.length (S j).fst) 0 then true else !Nat.beq (List.length hv) 0 else false) = true → 0 < 1 ∧ (0 + List.length p) * 8 ≤ maxRoom ∧ 0 + List.length p ≤ maxRoom ∧ (0 ≤ (↑m : Int) ∧ (↑m : Int) < (↑(0 + List.length p) : Int)) ∧ m + 1 ≤ (0 + List.length p) * 1 ∧ (((↑N : Int) - (↑j : Int) == (↑(List.length (List.getD x.l m default).l) : Int)) = true → (0 ≤ (↑m : Int) ∧ (↑m : Int) < (↑(0 + List.length p) : Int)) ∧ m + 1 ≤ (0 + List.length p) * 1 ∧ Wp Try.prog R 112 0 Rd.top (bodyOf Try.prog 57) [1, 1, 0, 1, 0, 1, 0, 1, 0, 0, 1, 0, 0, 1, 1, 1] (contQ Try.prog R 112 0 Rd.top (bodyOf Try.prog 57) Q [Kont.blk 3, Kont.seq [1, 1, 0, 1, 0, 1, 0, 1, 0, 0, 1, 1]]) (St.mk [(1, fz Fz.auto 1 (List.length p) fun (i x : Nat) => int i64 (List.getD p i 0)), (2, int i64 (↑m : Int)), (3, ref 0 0), (6, ref 1 0), (8, int i64 (↑(List.length (List.getD x.l m default).l) : Int)), (9, int i64 ((↑N : Int) - (↑j : Int))), (10, ow true 2 (0 + List.length p) 1)] [cells false 7 (nth [encPacks x, encR gl, encC l, AV.bool right, fz Fz.auto 1 (List.length hv) fun (i x : Nat) => int i64 (List.getD hv i 0), fz Fz.auto 1 (List.length (S j).fst) fun (i x : Nat) => int i64 (List.getD (S j).fst i 0), int i64 (S j).snd]), cells false 7 fun (x : Nat) => any, cells false ((0 + List.length p) * 1) (over (over (fun (a : Nat) => int i64 (List.getD p ((a - 0) / 1) 0)) m 1 fun (x : Nat) => int i64 ((↑N : Int) - (↑j : Int))) m 1 fun (x : Nat) => int i64 (-1))] g)) ∧ (((↑N : Int) - (↑j : Int) == (↑(List.length (List.getD x.l m default).l) : Int)) = false → Wp Try.prog R 112 0 Rd.top (bodyOf Try.prog 57) [1, 1, 0, 1, 0, 1, 0, 1, 0, 0, 1, 0, 0, 1, 1, 1] (contQ Try.prog R 112 0 Rd.top (bodyOf Try.prog 57) Q [Kont.blk 3, Kont.seq [1, 1, 0, 1, 0, 1, 0, 1, 0, 0, 1, 1]]) (St.mk [(1, fz Fz.auto 1 (List.length p) fun (i x : Nat) => int i64 (List.getD p i 0)), (2, int i64 (↑m : Int)), (3, ref 0 0), (6, ref 1 0), (8, int i64 (↑(List.length (List.getD x.l m default).l) : Int)), (9, int i64 ((↑N : Int) - (↑j : Int))), (10, ow true 2 (0 + List.length p) 1), (68, AV.bool ((↑N : Int) - (↑j : Int) == (↑(List.length (List.getD x.l m default).l) : Int)))] [cells false 7 (nth [encPacks x, encR gl, encC l, AV.bool right, fz Fz.auto 1 (List.length hv) fun (i x : Nat) => int i64 (List.getD hv i 0), fz Fz.auto 1 (List.length (S j).fst) fun (i x : Nat) => int i64 (List.getD (S j).fst i 0), int i64 (S j).snd]), cells false 7 fun (x : Nat) => any, cells false ((0 + List.length p) * 1) (over (fun (a : Nat) => int i64 (List.getD p ((a - 0) / 1) 0)) m 1 fun (x : Nat) => int i64 ((↑N : Int) - (↑j : Int)))] g))) ∧ ((bif decide ((↑N : Int) - (↑j : Int) ≥ 0) then bif Nat.beq (List.length (S j).fst) 0 then true else !Nat.beq (List.length hv) 0 else false) = false → Q (AEx.exit 2) (St.mk [(1, fz Fz.auto 1 (List.length p) fun (i x : Nat) => int i64 (List.getD p i 0)), (2, int i64 (↑m : Int)), (3, ref 0 0), (6, ref 1 0), (8, int i64 (↑(List.length (List.getD x.l m default).l) : Int)), (9, int i64 ((↑N : Int) - (↑j : Int))), (57, AV.bool (bif decide ((↑N : Int) - (↑j : Int) ≥ 0) then bif Nat.beq (List.length (S j).fst) 0 then true else !Nat.beq (List.length hv) 0 else false))] [cells false 7 (nth [encPacks x, encR gl, encC l, AV.bool right, fz Fz.auto 1 (List.length hv) fun (i x : Nat) => int i64 (List.getD hv i 0), fz Fz.auto 1 (List.length (S j).fst) fun (i x : Nat) => int i64 (List.getD (S j).fst i 0), int i64 (S j).snd]), cells false 7 fun (x : Nat) => any] g))) (fun _ => by kernel_rfl) ⟨(by omega), ⟨(by omega), ⟨fun c1 => have c1 : (↑N : Int) - (↑j : Int) ≥ 0 ∧ (Nat.beq (List.length (S j).fst) 0 = true ∨ Nat.beq (List.length hv) 0 = false) := ⟨(of_decide_eq_true (cA_t c1).1), ((cO_t (cA_t c1).2).imp (fun h => h) (fun h => ((Bool.not_eq_true' _).mp h)))⟩; ⟨(by omega), ⟨?_, ⟨?_, ⟨(by omega), ⟨(by omega), ⟨fun c2 => have c2 : (↑N : Int) - (↑j : Int) = (↑(List.length (List.getD x.l m default).l) : Int) := (beq_iff_eq.mp c2); ⟨(by omega), ⟨(by omega), ?_⟩⟩, fun c2 => have c2 : ¬(↑N : Int) - (↑j : Int) = (↑(List.length (List.getD x.l m default).l) : Int) := (beq_eq_false_iff_ne.mp c2); ?_⟩⟩⟩⟩⟩⟩, fun c1 => have c1 : ¬(↑N : Int) - (↑j : Int) ≥ 0 ∨ Nat.beq (List.length (S j).fst) 0 = false ∧ Nat.beq (List.length hv) 0 = true := ((cA_f c1).imp (fun h => (of_decide_eq_false h)) (fun h => ⟨(cO_f h).1, ((Bool.not_eq_false' _).mp (cO_f h).2)⟩)); ?_⟩⟩⟩
          · exact Nat.le_trans (show (0 + p.length) * 8 ≤ 64 by omega) (by decide)
          · exact Nat.le_trans (show 0 + p.length ≤ 8 by omega) (by decide)
          · refine (wp_to (s' := ⟨[(1, fz Fz.auto 1 (List.length p) fun (i x : Nat) => int i64 (List.getD p i 0)), (2, int i64 (↑m : Int)), (3, ref 0 0), (6, ref 1 0), (8, int i64 (↑(List.length (List.getD x.l m default).l) : Int)), (9, .int .i64 ((N : Int) - j)), (10, ow true 2 (0 + List.length p) 1)], [.cells false 7 (nth [encPacks x, encR gl, encC l, .bool right, encI ⟨hv, .auto⟩, encI ⟨(S j).1, .auto⟩, .int .i64 (S j).2]), .cells false 7 (fun _ => .any), .cells false ((0 + p.length) * 1) (intsC (p.set m (itemC N j)))], g⟩) (to_le ⟨(Le.refl _), ⟨(Le.refl _), ⟨(Le.refl _), ⟨(Le.refl _), ⟨(Le.refl _), ⟨(Le.refl _), ⟨(Le.refl _), trivial⟩⟩⟩⟩⟩⟩⟩ ⟨LeO.rflc, ⟨LeO.rflc, ⟨?_, trivial⟩⟩⟩ rfl) ?_)
            · refine LeO.cells (fun a ha => ?_)
              show _ = AV.int .i64 ((p.set m (itemC N j)).getD a 0)
              rw [set_getD (by omega), over_eq]
              by_cases h : a = m
              · subst h
                rw [if_pos (by omega), if_pos rfl]
                congr 1
                exact (hit0 (by omega)).symm
              · rw [if_neg (by omega), over_eq, if_neg (by omega), if_neg h, Nat.sub_zero, Nat.div_one]
            · refine (wp_to (to_freeze 2 [1, 2, 3, 6, 8, 9, 10] [] ⟨⟨[(1, fz Fz.auto 1 (List.length p) fun (i x : Nat) => int i64 (List.getD p i 0)), (2, int i64 (↑m : Int)), (3, ref 0 0), (6, ref 1 0), (8, int i64 (↑(List.length (List.getD x.l m default).l) : Int)), (9, int i64 ((↑N : Int) - (↑j : Int))), (10, fz Fz.auto 1 (0 + List.length p) fun (i j_1 : Nat) => int i64 (List.getD (List.set p m (itemC N j)) (i * 1 + j_1) 0))], [cells false 7 (nth [encPacks x, encR gl, encC l, AV.bool right, fz Fz.auto 1 (List.length hv) fun (i x : Nat) => int i64 (List.getD hv i 0), fz Fz.auto 1 (List.length (S j).fst) fun (i x : Nat) => int i64 (List.getD (S j).fst i 0), int i64 (S j).snd]), cells false 7 fun (x : Nat) => any, dead], g⟩, _⟩ rfl (by exact show (∀ (j_1 : Nat), j_1 < (0 + List.length p) * 1 → Below 0 (int i64 (List.getD (List.set p m (itemC N j)) j_1 0))) ∧ True ∧ True ∧ True ∧ True ∧ True ∧ True ∧ Nat.le ((0 + List.length p) * 1) ((0 + List.length p) * 1) ∧ True from ⟨(fun _ _ => trivial), ⟨trivial, ⟨trivial, ⟨trivial, ⟨trivial, ⟨trivial, ⟨trivial, ⟨(by simp at * <;> omega), trivial⟩⟩⟩⟩⟩⟩⟩⟩)) ?_)
              refine (wp_to (s' := ⟨[(1, fz Fz.auto 1 (List.length p) fun (i x : Nat) => int i64 (List.getD p i 0)), (2, int i64 (↑m : Int)), (3, ref 0 0), (6, ref 1 0), (8, int i64 (↑(List.length (List.getD x.l m default).l) : Int)), (9, int i64 ((↑N : Int) - (↑j : Int))), (10, encI ⟨p.set m (itemC N j), .auto⟩)], [cells false 7 (nth [encPacks x, encR gl, encC l, AV.bool right, fz Fz.auto 1 (List.length hv) fun (i x : Nat) => int i64 (List.getD hv i 0), fz Fz.auto 1 (List.length (S j).fst) fun (i x : Nat) => int i64 (List.getD (S j).fst i 0), int i64 (S j).snd]), cells false 7 fun (x : Nat) => any, dead], g⟩) (to_fr ⟨(Le.refl _), ⟨(Le.refl _), ⟨(Le.refl _), ⟨(Le.refl _), ⟨(Le.refl _), ⟨(Le.refl _), ⟨?_, trivial⟩⟩⟩⟩⟩⟩⟩ rfl rfl) ?_)
              · exact intsF (by simp)
              · refine vcQ [] (lkL [(15, [1, 2, 3, 6, 8, 9])]) (lkL [(15, [(4, ROrc.pcall (encS x gl l right hv (fromR x gl.l l.l right hv n ((S j).1, (S j).snd) (List.set p m (itemC N j))).fst (fromR x gl.l l.l right hv n ((S j).1, (S j).snd) (List.set p m (itemC N j))).snd)), (5, ROrc.val (Orc.obj (nth [encPacks x, encR gl, encC l, AV.bool right, fz Fz.auto 1 (List.length hv) fun (i x : Nat) => int i64 (List.getD hv i 0), fz Fz.auto 1 (List.length (fromR x gl.l l.l right hv n ((S j).1, (S j).snd) (List.set p m (itemC N j))).fst) fun (i x_1 : Nat) => int i64 (List.getD (fromR x gl.l l.l right hv n ((S j).1, (S j).snd) (List.set p m (itemC N j))).fst i 0), int i64 (fromR x gl.l l.l right hv n ((S j).1, (S j).snd) (List.set p m (itemC N j))).snd])))])]) (fun (Q : AEx → St R.σ → Prop) => 7 ≤ 7 ∧ (-9223372036854775808 ≤ (↑m : Int) + 1 ∧ (↑m : Int) + 1 ≤ 9223372036854775807) ∧ (∀ (hp : List AObj) (g : R.σ), true = true ∧ Does Try.prog R 57 [agg 7 (nth [encPacks x, encR gl, encC l, AV.bool right, fz Fz.auto 1 (List.length hv) fun (i x : Nat) => int i64 (List.getD hv i 0), fz Fz.auto 1 (List.length (S j).fst) fun (i x : Nat) => int i64 (List.getD (S j).fst i 0), int i64 (S j).snd]), fz Fz.auto 1 (List.length (List.set p m (itemC N j))) fun (i x : Nat) => int i64 (List.getD (List.set p m (itemC N j)) i 0), int i64 ((↑m : Int) + 1)] hp g (ret (agg 7 (nth [encPacks x, encR gl, encC l, AV.bool right, fz Fz.auto 1 (List.length hv) fun (i x : Nat) => int i64 (List.getD hv i 0), fz Fz.auto 1 (List.length (fromR x gl.l l.l right hv n ((S j).1, (S j).snd) (List.set p m (itemC N j))).fst) fun (i x_1 : Nat) => int i64 (List.getD (fromR x gl.l l.l right hv n ((S j).1, (S j).snd) (List.set p m (itemC N j))).fst i 0), int i64 (fromR x gl.l l.l right hv n ((S j).1, (S j).snd) (List.set p m (itemC N j))).snd]))) hp g) ∧ 7 ≤ 7 ∧ (∀ (c : Nat), c < 7 → nth [encPacks x, encR gl, encC l, AV.bool right, fz Fz.auto 1 (List.length hv) fun (i x : Nat) => int i64 (List.getD hv i 0), fz Fz.auto 1 (List.length (fromR x gl.l l.l right hv n ((S j).1, (S j).snd) (List.set p m (itemC N j))).fst) fun (i x_1 : Nat) => int i64 (List.getD (fromR x gl.l l.l right hv n ((S j).1, (S j).snd) (List.set p m (itemC N j))).fst i 0), int i64 (fromR x gl.l l.l right hv n ((S j).1, (S j).snd) (List.set p m (itemC N j))).snd] c = over (nth [encPacks x, encR gl, encC l, AV.bool right, fz Fz.auto 1 (List.length hv) fun (i x : Nat) => int i64 (List.getD hv i 0), fz Fz.auto 1 (List.length (S j).fst) fun (i x : Nat) => int i64 (List.getD (S j).fst i 0), int i64 (S j).snd]) 0 7 (List.brecOn (motive := fun (x : List AV) => Nat → AV) [encPacks x, encR gl, encC l, AV.bool right, fz Fz.auto 1 (List.length hv) fun (i x : Nat) => int i64 (List.getD hv i 0), fz Fz.auto 1 (List.length (fromR x gl.l l.l right hv n ((S j).1, (S j).snd) (List.set p m (itemC N j))).fst) fun (i x_1 : Nat) => int i64 (List.getD (fromR x gl.l l.l right hv n ((S j).1, (S j).snd) (List.set p m (itemC N j))).fst i 0), int i64 (fromR x gl.l l.l right hv n ((S j).1, (S j).snd) (List.set p m (itemC N j))).snd] nth._f) c) ∧ Q AEx.normal (St.mk [(1, fz Fz.auto 1 (List.length p) fun (i x : Nat) => int i64 (List.getD p i 0)), (2, int i64 (↑m : Int)), (3, ref 0 0), (6, ref 1 0), (8, int i64 (↑(List.length (List.getD x.l m default).l) : Int)), (9, int i64 ((↑N : Int) - (↑j : Int)))] [cells false 7 (nth [encPacks x, encR gl, encC l, AV.bool right, fz Fz.auto 1 (List.length hv) fun (i x : Nat) => int i64 (List.getD hv i 0), fz Fz.auto 1 (List.length (fromR x gl.l l.l right hv n ((S j).1, (S j).snd) (List.set p m (itemC N j))).fst) fun (i x_1 : Nat) => int i64 (List.getD (fromR x gl.l l.l right hv n ((S j).1, (S j).snd) (List.set p m (itemC N j))).fst i 0), int i64 (fromR x gl.l l.l right hv n ((S j).1, (S j).snd) (List.set p m (itemC N j))).snd]), cells false 7 fun (x : Nat) => any, dead] g)) (fun _ => by kernel_rfl) ⟨(by omega), ⟨(by omega), ⟨(fun _ _ => ⟨rfl, (ih _ _ _ _ _ _ (by simp at * <;> omega) ?_)⟩), ⟨(by omega), ⟨(fun c hc => match c, hc with | 0, _ => (by kernel_rfl) | 1, _ => (by kernel_rfl) | 2, _ => (by kernel_rfl) | 3, _ => (by kernel_rfl) | 4, _ => (by kernel_rfl) | 5, _ => (by kernel_rfl) | 6, _ => (by kernel_rfl) ), ?_⟩⟩⟩⟩⟩
                · exact hin' (by omega)
                · refine vcQ [] (lkL [(10, [1, 2, 3, 6, 8, 9])]) (fun _ => []) (fun (Q : AEx → St R.σ → Prop) => (-9223372036854775808 ≤ (↑N : Int) - (↑j : Int) - 1 ∧ (↑N : Int) - (↑j : Int) - 1 ≤ 9223372036854775807) ∧ Q AEx.normal (St.mk [(1, fz Fz.auto 1 (List.length p) fun (i x : Nat) => int i64 (List.getD p i 0)), (2, int i64 (↑m : Int)), (3, ref 0 0), (6, ref 1 0), (8, int i64 (↑(List.length (List.getD x.l m default).l) : Int)), (9, int i64 ((↑N : Int) - (↑j : Int) - 1))] [cells false 7 (nth [encPacks x, encR gl, encC l, AV.bool right, fz Fz.auto 1 (List.length hv) fun (i x : Nat) => int i64 (List.getD hv i 0), fz Fz.auto 1 (List.length (fromR x gl.l l.l right hv n ((S j).fst, (S j).snd) (List.set p m (itemC N j))).fst) fun (i x_1 : Nat) => int i64 (List.getD (fromR x gl.l l.l right hv n ((S j).fst, (S j).snd) (List.set p m (itemC N j))).fst i 0), int i64 (fromR x gl.l l.l right hv n ((S j).fst, (S j).snd) (List.set p m (itemC N j))).snd]), cells false 7 fun (x : Nat) => any, dead] g)) (fun _ => by kernel_rfl) ⟨(by omega), ?_⟩
                  have hgt : grdB hv (S j) = true := by unfold grdB; rcases c1.2 with h | h <;> rw [h] <;> simp
                  refine (next_round (j + 1) (to_sel [0, 1] 3 rfl rfl rfl rfl rfl ⟨(Le.refl _), ⟨(Le.refl _), ⟨(Le.refl _), ⟨(Le.refl _), ⟨(Le.refl _), ⟨Le.of_eq ?_, trivial⟩⟩⟩⟩⟩⟩ ⟨(LeO.cells (fun j hj => ?_)), ⟨⟨rfl, Nat.le_refl _, fun j hj => match j, hj with | 0, _ => (Le.any _) | 1, _ => (Le.any _) | 2, _ => (Le.any _) | 3, _ => (Le.any _) | 4, _ => (Le.any _) | 5, _ => (Le.any _) | 6, _ => (Le.any _) ⟩, trivial⟩⟩) ?_ ?_)
                  · show AV.int .i64 _ = AV.int .i64 _
                    congr 1
                    omega
                  · rw [hS1 hgt]
                    rename_i hj7
                    exact match j, hj7 with | 0, _ => rfl | 1, _ => rfl | 2, _ => rfl | 3, _ => rfl | 4, _ => rfl | 5, _ => rfl | 6, _ => rfl
                  · omega
                  · omega
          · refine (wp_to (s' := ⟨[(1, fz Fz.auto 1 (List.length p) fun (i x : Nat) => int i64 (List.getD p i 0)), (2, int i64 (↑m : Int)), (3, ref 0 0), (6, ref 1 0), (8, int i64 (↑(List.length (List.getD x.l m default).l) : Int)), (9, .int .i64 ((N : Int) - j)), (10, ow true 2 (0 + List.length p) 1), (68, AV.bool ((↑N : Int) - (↑j : Int) == (↑(List.length (List.getD x.l m default).l) : Int)))], [.cells false 7 (nth [encPacks x, encR gl, encC l, .bool right, encI ⟨hv, .auto⟩, encI ⟨(S j).1, .auto⟩, .int .i64 (S j).2]), .cells false 7 (fun _ => .any), .cells false ((0 + p.length) * 1) (intsC (p.set m (itemC N j)))], g⟩) (to_le ⟨(Le.refl _), ⟨(Le.refl _), ⟨(Le.refl _), ⟨(Le.refl _), ⟨(Le.refl _), ⟨(Le.refl _), ⟨(Le.refl _), ⟨(Le.refl _), trivial⟩⟩⟩⟩⟩⟩⟩⟩ ⟨LeO.rflc, ⟨LeO.rflc, ⟨?_, trivial⟩⟩⟩ rfl) ?_)
            · refine LeO.cells (fun a ha => ?_)
              show _ = AV.int .i64 ((p.set m (itemC N j)).getD a 0)
              rw [set_getD (by omega), over_eq]
              by_cases h : a = m
              · subst h
                rw [if_pos (by omega), if_pos rfl]
                congr 1
                exact (hit1 (by omega)).symm
              · rw [if_neg (by omega), if_neg h, Nat.sub_zero, Nat.div_one]
            · refine (wp_to (to_freeze 2 [1, 2, 3, 6, 8, 9, 10, 68] [] ⟨⟨[(1, fz Fz.auto 1 (List.length p) fun (i x : Nat) => int i64 (List.getD p i 0)), (2, int i64 (↑m : Int)), (3, ref 0 0), (6, ref 1 0), (8, int i64 (↑(List.length (List.getD x.l m default).l) : Int)), (9, int i64 ((↑N : Int) - (↑j : Int))), (10, fz Fz.auto 1 (0 + List.length p) fun (i j_1 : Nat) => int i64 (List.getD (List.set p m (itemC N j)) (i * 1 + j_1) 0)), (68, AV.bool ((↑N : Int) - (↑j : Int) == (↑(List.length (List.getD x.l m default).l) : Int)))], [cells false 7 (nth [encPacks x, encR gl, encC l, AV.bool right, fz Fz.auto 1 (List.length hv) fun (i x : Nat) => int i64 (List.getD hv i 0), fz Fz.auto 1 (List.length (S j).fst) fun (i x : Nat) => int i64 (List.getD (S j).fst i 0), int i64 (S j).snd]), cells false 7 fun (x : Nat) => any, dead], g⟩, _⟩ rfl (by exact show (∀ (j_1 : Nat), j_1 < (0 + List.length p) * 1 → Below 0 (int i64 (List.getD (List.set p m (itemC N j)) j_1 0))) ∧ True ∧ True ∧ True ∧ True ∧ True ∧ True ∧ Nat.le ((0 + List.length p) * 1) ((0 + List.length p) * 1) ∧ True ∧ True from ⟨(fun _ _ => trivial), ⟨trivial, ⟨trivial, ⟨trivial, ⟨trivial, ⟨trivial, ⟨trivial, ⟨(by simp at * <;> omega), ⟨trivial, trivial⟩⟩⟩⟩⟩⟩⟩⟩⟩)) ?_)
              refine (wp_to (s' := ⟨[(1, fz Fz.auto 1 (List.length p) fun (i x : Nat) => int i64 (List.getD p i 0)), (2, int i64 (↑m : Int)), (3, ref 0 0), (6, ref 1 0), (8, int i64 (↑(List.length (List.getD x.l m default).l) : Int)), (9, int i64 ((↑N : Int) - (↑j : Int))), (10, encI ⟨p.set m (itemC N j), .auto⟩), (68, AV.bool ((↑N : Int) - (↑j : Int) == (↑(List.length (List.getD x.l m default).l) : Int)))], [cells false 7 (nth [encPacks x, encR gl, encC l, AV.bool right, fz Fz.auto 1 (List.length hv) fun (i x : Nat) => int i64 (List.getD hv i 0), fz Fz.auto 1 (List.length (S j).fst) fun (i x : Nat) => int i64 (List.getD (S j).fst i 0), int i64 (S j).snd]), cells false 7 fun (x : Nat) => any, dead], g⟩) (to_fr ⟨(Le.refl _), ⟨(Le.refl _), ⟨(Le.refl _), ⟨(Le.refl _), ⟨(Le.refl _), ⟨(Le.refl _), ⟨?_, ⟨(Le.refl _), trivial⟩⟩⟩⟩⟩⟩⟩⟩ rfl rfl) ?_)
              · exact intsF (by simp)
              · refine vcQ [] (lkL [(15, [1, 2, 3, 6, 8, 9])]) (lkL [(15, [(4, ROrc.pcall (encS x gl l right hv (fromR x gl.l l.l right hv n ((S j).1, (S j).snd) (List.set p m (itemC N j))).fst (fromR x gl.l l.l right hv n ((S j).1, (S j).snd) (List.set p m (itemC N j))).snd)), (5, ROrc.val (Orc.obj (nth [encPacks x, encR gl, encC l, AV.bool right, fz Fz.auto 1 (List.length hv) fun (i x : Nat) => int i64 (List.getD hv i 0), fz Fz.auto 1 (List.length (fromR x gl.l l.l right hv n ((S j).1, (S j).snd) (List.set p m (itemC N j))).fst) fun (i x_1 : Nat) => int i64 (List.getD (fromR x gl.l l.l right hv n ((S j).1, (S j).snd) (List.set p m (itemC N j))).fst i 0), int i64 (fromR x gl.l l.l right hv n ((S j).1, (S j).snd) (List.set p m (itemC N j))).snd])))])]) (fun (Q : AEx → St R.σ → Prop) => 7 ≤ 7 ∧ (-9223372036854775808 ≤ (↑m : Int) + 1 ∧ (↑m : Int) + 1 ≤ 9223372036854775807) ∧ (∀ (hp : List AObj) (g : R.σ), true = true ∧ Does Try.prog R 57 [agg 7 (nth [encPacks x, encR gl, encC l, AV.bool right, fz Fz.auto 1 (List.length hv) fun (i x : Nat) => int i64 (List.getD hv i 0), fz Fz.auto 1 (List.length (S j).fst) fun (i x : Nat) => int i64 (List.getD (S j).fst i 0), int i64 (S j).snd]), fz Fz.auto 1 (List.length (List.set p m (itemC N j))) fun (i x : Nat) => int i64 (List.getD (List.set p m (itemC N j)) i 0), int i64 ((↑m : Int) + 1)] hp g (ret (agg 7 (nth [encPacks x, encR gl, encC l, AV.bool right, fz Fz.auto 1 (List.length hv) fun (i x : Nat) => int i64 (List.getD hv i 0), fz Fz.auto 1 (List.length (fromR x gl.l l.l right hv n ((S j).1, (S j).snd) (List.set p m (itemC N j))).fst) fun (i x_1 : Nat) => int i64 (List.getD (fromR x gl.l l.l right hv n ((S j).1, (S j).snd) (List.set p m (itemC N j))).fst i 0), int i64 (fromR x gl.l l.l right hv n ((S j).1, (S j).snd) (List.set p m (itemC N j))).snd]))) hp g) ∧ 7 ≤ 7 ∧ (∀ (c : Nat), c < 7 → nth [encPacks x, encR gl, encC l, AV.bool right, fz Fz.auto 1 (List.length hv) fun (i x : Nat) => int i64 (List.getD hv i 0), fz Fz.auto 1 (List.length (fromR x gl.l l.l right hv n ((S j).1, (S j).snd) (List.set p m (itemC N j))).fst) fun (i x_1 : Nat) => int i64 (List.getD (fromR x gl.l l.l right hv n ((S j).1, (S j).snd) (List.set p m (itemC N j))).fst i 0), int i64 (fromR x gl.l l.l right hv n ((S j).1, (S j).snd) (List.set p m (itemC N j))).snd] c = over (nth [encPacks x, encR gl, encC l, AV.bool right, fz Fz.auto 1 (List.length hv) fun (i x : Nat) => int i64 (List.getD hv i 0), fz Fz.auto 1 (List.length (S j).fst) fun (i x : Nat) => int i64 (List.getD (S j).fst i 0), int i64 (S j).snd]) 0 7 (List.brecOn (motive := fun (x : List AV) => Nat → AV) [encPacks x, encR gl, encC l, AV.bool right, fz Fz.auto 1 (List.length hv) fun (i x : Nat) => int i64 (List.getD hv i 0), fz Fz.auto 1 (List.length (fromR x gl.l l.l right hv n ((S j).1, (S j).snd) (List.set p m (itemC N j))).fst) fun (i x_1 : Nat) => int i64 (List.getD (fromR x gl.l l.l right hv n ((S j).1, (S j).snd) (List.set p m (itemC N j))).fst i 0), int i64 (fromR x gl.l l.l right hv n ((S j).1, (S j).snd) (List.set p m (itemC N j))).snd] nth._f) c) ∧ Q AEx.normal (St.mk [(1, fz Fz.auto 1 (List.length p) fun (i x : Nat) => int i64 (List.getD p i 0)), (2, int i64 (↑m : Int)), (3, ref 0 0), (6, ref 1 0), (8, int i64 (↑(List.length (List.getD x.l m default).l) : Int)), (9, int i64 ((↑N : Int) - (↑j : Int)))] [cells false 7 (nth [encPacks x, encR gl, encC l, AV.bool right, fz Fz.auto 1 (List.length hv) fun (i x : Nat) => int i64 (List.getD hv i 0), fz Fz.auto 1 (List.length (fromR x gl.l l.l right hv n ((S j).1, (S j).snd) (List.set p m (itemC N j))).fst) fun (i x_1 : Nat) => int i64 (List.getD (fromR x gl.l l.l right hv n ((S j).1, (S j).snd) (List.set p m (itemC N j))).fst i 0), int i64 (fromR x gl.l l.l right hv n ((S j).1, (S j).snd) (List.set p m (itemC N j))).snd]), cells false 7 fun (x : Nat) => any, dead] g)) (fun _ => by kernel_rfl) ⟨(by omega), ⟨(by omega), ⟨(fun _ _ => ⟨rfl, (ih _ _ _ _ _ _ (by simp at * <;> omega) ?_)⟩), ⟨(by omega), ⟨(fun c hc => match c, hc with | 0, _ => (by kernel_rfl) | 1, _ => (by kernel_rfl) | 2, _ => (by kernel_rfl) | 3, _ => (by kernel_rfl) | 4, _ => (by kernel_rfl) | 5, _ => (by kernel_rfl) | 6, _ => (by kernel_rfl) ), ?_⟩⟩⟩⟩⟩
                · exact hin' (by omega)
                · refine vcQ [] (lkL [(10, [1, 2, 3, 6, 8, 9])]) (fun _ => []) (fun (Q : AEx → St R.σ → Prop) => (-9223372036854775808 ≤ (↑N : Int) - (↑j : Int) - 1 ∧ (↑N : Int) - (↑j : Int) - 1 ≤ 9223372036854775807) ∧ Q AEx.normal (St.mk [(1, fz Fz.auto 1 (List.length p) fun (i x : Nat) => int i64 (List.getD p i 0)), (2, int i64 (↑m : Int)), (3, ref 0 0), (6, ref 1 0), (8, int i64 (↑(List.length (List.getD x.l m default).l) : Int)), (9, int i64 ((↑N : Int) - (↑j : Int) - 1))] [cells false 7 (nth [encPacks x, encR gl, encC l, AV.bool right, fz Fz.auto 1 (List.length hv) fun (i x : Nat) => int i64 (List.getD hv i 0), fz Fz.auto 1 (List.length (fromR x gl.l l.l right hv n ((S j).fst, (S j).snd) (List.set p m (itemC N j))).fst) fun (i x_1 : Nat) => int i64 (List.getD (fromR x gl.l l.l right hv n ((S j).fst, (S j).snd) (List.set p m (itemC N j))).fst i 0), int i64 (fromR x gl.l l.l right hv n ((S j).fst, (S j).snd) (List.set p m (itemC N j))).snd]), cells false 7 fun (x : Nat) => any, dead] g)) (fun _ => by kernel_rfl) ⟨(by omega), ?_⟩
                  have hgt : grdB hv (S j) = true := by unfold grdB; rcases c1.2 with h | h <;> rw [h] <;> simp
                  refine (next_round (j + 1) (to_sel [0, 1] 3 rfl rfl rfl rfl rfl ⟨(Le.refl _), ⟨(Le.refl _), ⟨(Le.refl _), ⟨(Le.refl _), ⟨(Le.refl _), ⟨Le.of_eq ?_, trivial⟩⟩⟩⟩⟩⟩ ⟨(LeO.cells (fun j hj => ?_)), ⟨⟨rfl, Nat.le_refl _, fun j hj => match j, hj with | 0, _ => (Le.any _) | 1, _ => (Le.any _) | 2, _ => (Le.any _) | 3, _ => (Le.any _) | 4, _ => (Le.any _) | 5, _ => (Le.any _) | 6, _ => (Le.any _) ⟩, trivial⟩⟩) ?_ ?_)
                  · show AV.int .i64 _ = AV.int .i64 _
                    congr 1
                    omega
                  · rw [hS1 hgt]
                    rename_i hj7
                    exact match j, hj7 with | 0, _ => rfl | 1, _ => rfl | 2, _ => rfl | 3, _ => rfl | 4, _ => rfl | 5, _ => rfl | 6, _ => rfl
                  · omega
                  · omega
          · have hend : S (N + 1) = S j := by
              rcases c1 with h | h
              · rw [show j = N + 1 by omega]
              · have hf : grdB hv (runR x gl.l l.l right hv n m N p (fd, far) j) = false := by rw [hS]; unfold grdB; rw [h.1, h.2]; rfl
                have := runR_stop hf (N + 1 - j)
                rw [hS, show j + (N + 1 - j) = N + 1 by omega] at this
                exact this
            rw [hend]
            refine ⟨_, To.refl _, vcQ [] (lkL [(16, [6])]) (lkL [(16, [(1, ROrc.val (Orc.obj (nth [encPacks x, encR gl, encC l, AV.bool right, fz Fz.auto 1 (List.length hv) fun (i x : Nat) => int i64 (List.getD hv i 0), fz Fz.auto 1 (List.length (S j).fst) fun (i x : Nat) => int i64 (List.getD (S j).fst i 0), int i64 (S j).snd])))])]) (fun (Q : AEx → St R.σ → Prop) => 7 ≤ 7 ∧ 7 ≤ 7 ∧ (∀ (c : Nat), c < 7 → nth [encPacks x, encR gl, encC l, AV.bool right, fz Fz.auto 1 (List.length hv) fun (i x : Nat) => int i64 (List.getD hv i 0), fz Fz.auto 1 (List.length (S j).fst) fun (i x : Nat) => int i64 (List.getD (S j).fst i 0), int i64 (S j).snd] c = over (fun (x : Nat) => any) 0 7 (List.brecOn (motive := fun (x : List AV) => Nat → AV) [encPacks x, encR gl, encC l, AV.bool right, fz Fz.auto 1 (List.length hv) fun (i x : Nat) => int i64 (List.getD hv i 0), fz Fz.auto 1 (List.length (S j).fst) fun (i x : Nat) => int i64 (List.getD (S j).fst i 0), int i64 (S j).snd] nth._f) c) ∧ Q AEx.ret (St.mk [(6, ref 1 0)] [cells false 7 (nth [encPacks x, encR gl, encC l, AV.bool right, fz Fz.auto 1 (List.length hv) fun (i x : Nat) => int i64 (List.getD hv i 0), fz Fz.auto 1 (List.length (S j).fst) fun (i x : Nat) => int i64 (List.getD (S j).fst i 0), int i64 (S j).snd]), cells false 7 (nth [encPacks x, encR gl, encC l, AV.bool right, fz Fz.auto 1 (List.length hv) fun (i x : Nat) => int i64 (List.getD hv i 0), fz Fz.auto 1 (List.length (S j).fst) fun (i x : Nat) => int i64 (List.getD (S j).fst i 0), int i64 (S j).snd])] g)) (fun _ => by kernel_rfl) ⟨(by omega), ⟨(by omega), ⟨(fun c hc => match c, hc with | 0, _ => (by kernel_rfl) | 1, _ => (by kernel_rfl) | 2, _ => (by kernel_rfl) | 3, _ => (by kernel_rfl) | 4, _ => (by kernel_rfl) | 5, _ => (by kernel_rfl) | 6, _ => (by kernel_rfl) ), ?_⟩⟩⟩⟩
            refine (retQ_le (retQ_drop (agg 7 (nth [fz x.2 1 (List.length x.l) fun (i x_1 : Nat) => fz (List.getD x.l i default).2 2 (List.length (List.getD x.l i default).l) fun (i_1 : Nat) => relC (List.getD (List.getD x.l i default).l i_1 default), fz gl.2 3 (List.length gl.l) fun (i : Nat) => rngC (List.getD gl.l i default), fz l.2 4 (List.length l.l) fun (i : Nat) => clC (List.getD l.l i default), AV.bool right, fz Fz.auto 1 (List.length hv) fun (i x : Nat) => int i64 (List.getD hv i 0), fz Fz.auto 1 (List.length (S j).fst) fun (i x : Nat) => int i64 (List.getD (S j).fst i 0), int i64 (S j).snd])) ([0 + (TyI.mk ((fun (x : TypeInfo) => x.desc) Try.prog.types[93]) Try.prog.types[94].size Try.prog.types[94].bytes (cellA (ofVal (Value.agg #[Value.slice none 0 0, Value.slice none 0 0, Value.slice none 0 0, Value.bool false, Value.slice none 0 0, Value.slice none 0 0, Value.int i64 0]))) (isAggD ((fun (x : TypeInfo) => x.desc) Try.prog.types[93])) (flatTy Try.prog 94)).size ≤ 7]) (by kernel_rfl) (by exact ⟨(by decide), trivial⟩) ⟨⟨⟨⟨⟨⟨⟨trivial, trivial⟩, trivial⟩, trivial⟩, trivial⟩, trivial⟩, trivial⟩, trivial⟩ rfl) (Le.of_eq (by kernel_rfl)))
      · exfalso
        omega
theorem from_all (x : Ix) (gl : KL Rng) (l : KL Clause) (right : Bool) (hv : List Int) (hs : small x) (hg : gl.l.length < 1000000) (hx : formedB x = true) (hgl : ∀ r ∈ gl.l, 0 ≤ r.pack ∧ r.pack < x.l.length) (hl : ∀ c ∈ l.l, thereC x gl.l c) (hll : l.l.length < 1000000)
    (hhv : hv.length < 1000000) : ∀ (n m : Nat), m + n = x.l.length → ∀ (R : Res) (g : R.σ) (p : List Int) (fd : List Int) (far : Int) (hp : List AObj), p.length = x.l.length → inQ x (planOf p x.l.length) m →
    Does Try.prog R 57 [encS x gl l right hv fd far, encI ⟨p, .auto⟩, .int .i64 m] hp g (.ret (encS x gl l right hv (fromR x gl.l l.l right hv n (fd, far) p).1 (fromR x gl.l l.l right hv n (fd, far) p).2)) hp g
  | 0, m, hm, R, g, p, fd, far, hp, hpl, hin => by
    have e : m = x.l.length := by omega
    subst e
    exact from_zero R x gl l right hv p fd far hp g hs hg hx hgl hl hll hpl hin hhv
  | n + 1, m, hm, R, g, p, fd, far, hp, hpl, hin =>
    from_succ x gl l right hv hs hg hx hgl hl hll hhv n m hm (fun R g p fd far hp h1 h2 => from_all x gl l right hv hs hg hx hgl hl hll hhv n (m + 1) (by omega) R g p fd far hp h1 h2) R g p fd far hp hpl hin
def searchR (x : Ix) (gl : List Rng) (l : List Clause) (right : Bool) (hv : List Int) : List Int × Int := fromR x gl l right hv x.l.length ([], 0) (planL (fun _ => -1) x.l.length)
theorem c_from (R : Res) (x : Ix) (gl : KL Rng) (l : KL Clause) (right : Bool) (hv : List Int) (hp : List AObj) (g : R.σ) (hs : small x) (hg : gl.l.length < 1000000) (hx : formedB x = true) (hgl : ∀ r ∈ gl.l, 0 ≤ r.pack ∧ r.pack < x.l.length) (hl : ∀ c ∈ l.l, thereC x gl.l c) (hll : l.l.length < 1000000) (hhv : hv.length < 1000000) :
    Does Try.prog R 57 [encS x gl l right hv [] 0, encI ⟨planL (fun _ => -1) x.l.length, .auto⟩, .int .i64 0] hp g (.ret (encS x gl l right hv (searchR x gl.l l.l right hv).1 (searchR x gl.l l.l right hv).2)) hp g :=
  from_all x gl l right hv hs hg hx hgl hl hll hhv x.l.length 0 (by omega) R g _ [] 0 hp (planL_len _ _) (fun i hi => absurd hi (by omega))
end Go.Avm.Pack
namespace Go.Avm.Pack
open Go Go.Avm Go.Proofs
open Go.IntKind (i64 u64)
open Go.Avm.AV (int bool any fz fp sl ow ref fn ifc val agg tup)
open Go.Avm.AObj (cells dead)
open Go.Avm.Oc (ret)
set_option maxRecDepth 4000
theorem c_rClausesF (R : Res) (x : Ix) (gl : KL Rng) (hp : List AObj) (g : R.σ) (hs : small x) (h : formedB x = true) (hg : gl.l.length ≤ 4) :
    Does Try.prog R 28 [encIx x, encR gl] hp g (.ret (encC ⟨clausesOf x gl.l, .auto⟩)) hp g := by
  refine does_any' (fun R g => ?_) (by exact ⟨⟨trivial, trivial⟩, trivial, trivial⟩) R hp g
  have h1 : Does Try.prog R 28 [encIx x, encR gl] [] g (.ret (.fz .auto 4 (clausesOf x gl.l).length (fun i j => clsL (clausesOf x gl.l) (i * 4 + j)))) [] g :=
    does_frz 0 [1] (c_rClauses R x gl g hs h hg) (Nat.le_refl _) (by exact ⟨fun j _ => below_clsL _ j, Nat.le_refl _, trivial⟩) trivial trivial rfl rfl
  exact does_conv h1 ⟨Le.refl _, Le.refl _, trivial⟩ (clsF _)
theorem c_from0 (R : Res) (x : Ix) (gl : KL Rng) (l : KL Clause) (right : Bool) (hp : List AObj) (g : R.σ) (hs : small x) (hg : gl.l.length < 1000000) (hx : formedB x = true) (hgl : ∀ r ∈ gl.l, 0 ≤ r.pack ∧ r.pack < x.l.length) (hl : ∀ c ∈ l.l, thereC x gl.l c) (hll : l.l.length < 1000000) :
    Does Try.prog R 57 [.agg 7 (nth [encPacks x, encR gl, encC l, .bool right, .fz .nil 0 0 (fun _ _ => .any), .fz .nil 0 0 (fun _ _ => .any), .int .i64 0]), encI ⟨planL (fun _ => -1) x.l.length, .auto⟩, .int .i64 0] hp g (.ret (encS x gl l right [] (searchR x gl.l l.l right []).1 (searchR x gl.l l.l right []).2)) hp g :=
  does_conv (c_from R x gl l right [] hp g hs hg hx hgl hl hll (by decide)) ⟨Le.agg (fun j hj => match j, hj with | 0, _ => Le.refl _ | 1, _ => Le.refl _ | 2, _ => Le.refl _ | 3, _ => Le.refl _ | 4, _ => Le.nil_auto | 5, _ => Le.nil_auto | 6, _ => Le.refl _), Le.refl _, Le.refl _, trivial⟩ (Le.refl _)
theorem c_from1 (R : Res) (x : Ix) (gl : KL Rng) (l : KL Clause) (right : Bool) (hv : KL Int) (hp : List AObj) (g : R.σ) (hs : small x) (hg : gl.l.length < 1000000) (hx : formedB x = true) (hgl : ∀ r ∈ gl.l, 0 ≤ r.pack ∧ r.pack < x.l.length) (hl : ∀ c ∈ l.l, thereC x gl.l c) (hll : l.l.length < 1000000) (h0 : 0 < hv.l.length) (hhv : hv.l.length < 1000000) :
    Does Try.prog R 57 [.agg 7 (nth [encPacks x, encR gl, encC l, .bool right, encI hv, .fz .nil 0 0 (fun _ _ => .any), .int .i64 0]), encI ⟨planL (fun _ => -1) x.l.length, .auto⟩, .int .i64 0] hp g (.ret (encS x gl l right hv.l (searchR x gl.l l.l right hv.l).1 (searchR x gl.l l.l right hv.l).2)) hp g :=
  does_conv (c_from R x gl l right hv.l hp g hs hg hx hgl hl hll hhv) ⟨Le.agg (fun j hj => match j, hj with | 0, _ => Le.refl _ | 1, _ => Le.refl _ | 2, _ => Le.refl _ | 3, _ => Le.refl _ | 4, _ => Le.any_auto h0 | 5, _ => Le.nil_auto | 6, _ => Le.refl _), Le.refl _, Le.refl _, trivial⟩ (Le.refl _)
def rbestR (x : Ix) (gl : List Rng) : List Int × Int := ((searchR x gl (clausesOf x gl) true []).1, if Nat.beq (searchR x gl (clausesOf x gl) true []).1.length 0 then 5 else 0)
theorem c_rBest (R : Res) (x : Ix) (gl : KL Rng) (hp : List AObj) (g : R.σ) (hs : small x) (hg : gl.l.length < 1000000) (hck : checkB x gl.l = true) :
    Does Try.prog R 17 [encIx x, encR gl] hp g (.ret (.tup 2 (nth [encI ⟨(rbestR x gl.l).1, .auto⟩, .int .i64 (rbestR x gl.l).2]))) hp g := by
  obtain ⟨hx, hg4, hr⟩ := check_parts hck
  have hgl := check_goals hck
  obtain ⟨hx1, h8⟩ := formed_le hx
  have hl : ∀ c ∈ clausesOf x gl.l, thereC x gl.l c := fun c hc => there_all hc
  have hll := cls_len hx hg4
  refine does_any' (fun R g => ?_) (by exact ⟨⟨trivial, trivial⟩, ⟨trivial, trivial⟩⟩) R hp g
  have hcc : ∀ (hp : List AObj) (g : R.σ), Does Try.prog R 28 [encIx x, encR gl] hp g (.ret (encC ⟨clausesOf x gl.l, .auto⟩)) hp g := fun hp g => c_rClausesF R x gl hp g hs hx hg4
  unfold rbestR
  obtain ⟨cl, hcl⟩ : ∃ cl, clausesOf x gl.l = cl := ⟨_, rfl⟩
  rw [hcl] at hl hll hcc ⊢
  cases hb : Nat.beq (searchR x gl.l cl true []).1.length 0 with
  | true =>
    rw [List.eq_nil_of_length_eq_zero (Nat.eq_of_beq_eq_true hb)]
    refine spec_of_wp (nt := 21) (rs := [.tmp 4, .tmp 5]) (k0 := 0) (by kernel_rfl) (by kernel_rfl) (by kernel_rfl) rfl ?_
    refine vcQ [] (lkL [(0, [1, 2]), (1, [6]), (2, [6, 18]), (3, [4, 5]), (4, [4, 5])]) (lkL [(1, [(4, ROrc.pcall (encC (KL.mk cl Fz.auto))), (7, ROrc.pcall (encI (KL.mk (planL (fun (x : Nat) => -1) (List.length x.l)) Fz.auto))), (8, ROrc.pcall (encS (KL.mk x.l x.k) (KL.mk gl.l gl.k) (KL.mk cl Fz.auto) true [] (searchR (KL.mk x.l x.k) (KL.mk gl.l gl.k).l (KL.mk cl Fz.auto).l true []).fst (searchR (KL.mk x.l x.k) (KL.mk gl.l gl.k).l (KL.mk cl Fz.auto).l true []).snd)), (10, ROrc.val (Orc.obj (nth [encPacks x, encR gl, fz Fz.auto 4 (List.length cl) fun (i : Nat) => clC (List.getD cl i default), AV.bool true, fz Fz.auto 1 0 fun (i x : Nat) => int i64 (List.getD [] i 0), fz Fz.auto 1 (List.length (searchR (KL.mk x.l x.k) gl.l cl true []).fst) fun (i x_1 : Nat) => int i64 (List.getD (searchR (KL.mk x.l x.k) gl.l cl true []).fst i 0), int i64 (searchR (KL.mk x.l x.k) gl.l cl true []).snd])))])]) (fun (Q : AEx → St R.σ → Prop) => Tables.follows Try.prog.toTables Departure.mixedOrders = true ∧ 1 ≤ 1 ∧ 1 ≤ 1 ∧ (∀ (hp : List AObj) (g : R.σ), true = true ∧ Does Try.prog R 28 [encIx x, encR gl] hp g (ret (fz Fz.auto 4 (List.length cl) fun (i : Nat) => clC (List.getD cl i default))) hp g) ∧ 1 ≤ 1 ∧ (∀ (hp : List AObj) (g : R.σ), true = true ∧ Does Try.prog R 58 [encIx x] hp g (ret (fz Fz.auto 1 (List.length (planL (fun (x : Nat) => -1) (List.length x.l))) fun (i x_1 : Nat) => int i64 (List.getD (planL (fun (x : Nat) => -1) (List.length x.l)) i 0))) hp g) ∧ (∀ (hp : List AObj) (g : R.σ), true = true ∧ Does Try.prog R 57 [agg 7 (nth [encPacks x, encR gl, fz Fz.auto 4 (List.length cl) fun (i : Nat) => clC (List.getD cl i default), AV.bool true, fz Fz.nil 0 0 fun (x x_1 : Nat) => any, fz Fz.nil 0 0 fun (x x_1 : Nat) => any, int i64 0]), fz Fz.auto 1 (List.length (planL (fun (x : Nat) => -1) (List.length x.l))) fun (i x_1 : Nat) => int i64 (List.getD (planL (fun (x : Nat) => -1) (List.length x.l)) i 0), int i64 0] hp g (ret (agg 7 (nth [encPacks x, encR gl, fz Fz.auto 4 (List.length cl) fun (i : Nat) => clC (List.getD cl i default), AV.bool true, fz Fz.auto 1 0 fun (i x : Nat) => int i64 (List.getD [] i 0), fz Fz.auto 1 (List.length (searchR (KL.mk x.l x.k) gl.l cl true []).fst) fun (i x_1 : Nat) => int i64 (List.getD (searchR (KL.mk x.l x.k) gl.l cl true []).fst i 0), int i64 (searchR (KL.mk x.l x.k) gl.l cl true []).snd]))) hp g) ∧ 7 ≤ 7 ∧ (∀ (c : Nat), c < 7 → nth [encPacks x, encR gl, fz Fz.auto 4 (List.length cl) fun (i : Nat) => clC (List.getD cl i default), AV.bool true, fz Fz.auto 1 0 fun (i x : Nat) => int i64 (List.getD [] i 0), fz Fz.auto 1 (List.length (searchR (KL.mk x.l x.k) gl.l cl true []).fst) fun (i x_1 : Nat) => int i64 (List.getD (searchR (KL.mk x.l x.k) gl.l cl true []).fst i 0), int i64 (searchR (KL.mk x.l x.k) gl.l cl true []).snd] c = over (nth [fz Fz.nil 0 0 fun (x x_1 : Nat) => any, fz Fz.nil 0 0 fun (x x_1 : Nat) => any, fz Fz.nil 0 0 fun (x x_1 : Nat) => any, AV.bool false, fz Fz.nil 0 0 fun (x x_1 : Nat) => any, fz Fz.nil 0 0 fun (x x_1 : Nat) => any, int i64 0]) 0 7 (List.brecOn (motive := fun (x : List AV) => Nat → AV) [encPacks x, encR gl, fz Fz.auto 4 (List.length cl) fun (i : Nat) => clC (List.getD cl i default), AV.bool true, fz Fz.auto 1 0 fun (i x : Nat) => int i64 (List.getD [] i 0), fz Fz.auto 1 (List.length (searchR (KL.mk x.l x.k) gl.l cl true []).fst) fun (i x_1 : Nat) => int i64 (List.getD (searchR (KL.mk x.l x.k) gl.l cl true []).fst i 0), int i64 (searchR (KL.mk x.l x.k) gl.l cl true []).snd] nth._f) c) ∧ 6 ≤ 7 ∧ (Nat.beq (List.length (searchR (KL.mk x.l x.k) gl.l cl true []).fst) 0 = true → Q AEx.ret (St.mk [(4, fz Fz.nil 0 0 fun (x x_2 : Nat) => any), (5, int i64 5)] [cells false 1 (nth [encPacks x]), cells false 7 (nth [encPacks x, encR gl, fz Fz.auto 4 (List.length cl) fun (i : Nat) => clC (List.getD cl i default), AV.bool true, fz Fz.auto 1 0 fun (i x : Nat) => int i64 (List.getD [] i 0), fz Fz.auto 1 (List.length (searchR (KL.mk x.l x.k) gl.l cl true []).fst) fun (i x_2 : Nat) => int i64 (List.getD (searchR (KL.mk x.l x.k) gl.l cl true []).fst i 0), int i64 (searchR (KL.mk x.l x.k) gl.l cl true []).snd])] g)) ∧ (Nat.beq (List.length (searchR (KL.mk x.l x.k) gl.l cl true []).fst) 0 = false → 6 ≤ 7 ∧ Q AEx.ret (St.mk [(4, fz Fz.auto 1 (List.length (searchR (KL.mk x.l x.k) gl.l cl true []).fst) fun (i x_2 : Nat) => int i64 (List.getD (searchR (KL.mk x.l x.k) gl.l cl true []).fst i 0)), (5, int i64 0)] [cells false 1 (nth [encPacks x]), cells false 7 (nth [encPacks x, encR gl, fz Fz.auto 4 (List.length cl) fun (i : Nat) => clC (List.getD cl i default), AV.bool true, fz Fz.auto 1 0 fun (i x : Nat) => int i64 (List.getD [] i 0), fz Fz.auto 1 (List.length (searchR (KL.mk x.l x.k) gl.l cl true []).fst) fun (i x_2 : Nat) => int i64 (List.getD (searchR (KL.mk x.l x.k) gl.l cl true []).fst i 0), int i64 (searchR (KL.mk x.l x.k) gl.l cl true []).snd])] g))) (fun _ => by kernel_rfl) ⟨(by kernel_rfl), ⟨(by omega), ⟨(by omega), ⟨(fun _ _ => ⟨rfl, (hcc _ _)⟩), ⟨(by omega), ⟨(fun _ _ => ⟨rfl, (Go.Avm.Pack.c_none _ _ _ _ (by omega) (by omega))⟩), ⟨(fun _ _ => ⟨rfl, (Go.Avm.Pack.c_from0 _ (KL.mk x.l x.k) (KL.mk gl.l gl.k) (KL.mk cl Fz.auto) _ _ _ (by omega) (by omega) (by omega) (by omega) (by omega) (by omega))⟩), ⟨(by omega), ⟨(fun c hc => match c, hc with | 0, _ => (by kernel_rfl) | 1, _ => (by kernel_rfl) | 2, _ => (by kernel_rfl) | 3, _ => (by kernel_rfl) | 4, _ => (by kernel_rfl) | 5, _ => (by kernel_rfl) | 6, _ => (by kernel_rfl) ), ⟨(by omega), ⟨fun _ => ?_, fun hcc => (nomatch (hb.symm.trans hcc))⟩⟩⟩⟩⟩⟩⟩⟩⟩⟩⟩
    refine (retQ_le (retQ_drop _ _ rfl trivial ⟨⟨trivial, trivial⟩, trivial⟩ rfl) (Le.tup (fun j hj => match j, hj with | 0, _ => Le.nil_auto | 1, _ => (Le.of_eq (by kernel_rfl)) )))
  | false =>
    refine spec_of_wp (nt := 21) (rs := [.tmp 4, .tmp 5]) (k0 := 0) (by kernel_rfl) (by kernel_rfl) (by kernel_rfl) rfl ?_
    refine vcQ [] (lkL [(0, [1, 2]), (1, [6]), (2, [6, 18]), (3, [4, 5]), (4, [4, 5])]) (lkL [(1, [(4, ROrc.pcall (encC (KL.mk cl Fz.auto))), (7, ROrc.pcall (encI (KL.mk (planL (fun (x : Nat) => -1) (List.length x.l)) Fz.auto))), (8, ROrc.pcall (encS (KL.mk x.l x.k) (KL.mk gl.l gl.k) (KL.mk cl Fz.auto) true [] (searchR (KL.mk x.l x.k) (KL.mk gl.l gl.k).l (KL.mk cl Fz.auto).l true []).fst (searchR (KL.mk x.l x.k) (KL.mk gl.l gl.k).l (KL.mk cl Fz.auto).l true []).snd)), (10, ROrc.val (Orc.obj (nth [encPacks x, encR gl, fz Fz.auto 4 (List.length cl) fun (i : Nat) => clC (List.getD cl i default), AV.bool true, fz Fz.auto 1 0 fun (i x : Nat) => int i64 (List.getD [] i 0), fz Fz.auto 1 (List.length (searchR (KL.mk x.l x.k) gl.l cl true []).fst) fun (i x_1 : Nat) => int i64 (List.getD (searchR (KL.mk x.l x.k) gl.l cl true []).fst i 0), int i64 (searchR (KL.mk x.l x.k) gl.l cl true []).snd])))])]) (fun (Q : AEx → St R.σ → Prop) => Tables.follows Try.prog.toTables Departure.mixedOrders = true ∧ 1 ≤ 1 ∧ 1 ≤ 1 ∧ (∀ (hp : List AObj) (g : R.σ), true = true ∧ Does Try.prog R 28 [encIx x, encR gl] hp g (ret (fz Fz.auto 4 (List.length cl) fun (i : Nat) => clC (List.getD cl i default))) hp g) ∧ 1 ≤ 1 ∧ (∀ (hp : List AObj) (g : R.σ), true = true ∧ Does Try.prog R 58 [encIx x] hp g (ret (fz Fz.auto 1 (List.length (planL (fun (x : Nat) => -1) (List.length x.l))) fun (i x_1 : Nat) => int i64 (List.getD (planL (fun (x : Nat) => -1) (List.length x.l)) i 0))) hp g) ∧ (∀ (hp : List AObj) (g : R.σ), true = true ∧ Does Try.prog R 57 [agg 7 (nth [encPacks x, encR gl, fz Fz.auto 4 (List.length cl) fun (i : Nat) => clC (List.getD cl i default), AV.bool true, fz Fz.nil 0 0 fun (x x_1 : Nat) => any, fz Fz.nil 0 0 fun (x x_1 : Nat) => any, int i64 0]), fz Fz.auto 1 (List.length (planL (fun (x : Nat) => -1) (List.length x.l))) fun (i x_1 : Nat) => int i64 (List.getD (planL (fun (x : Nat) => -1) (List.length x.l)) i 0), int i64 0] hp g (ret (agg 7 (nth [encPacks x, encR gl, fz Fz.auto 4 (List.length cl) fun (i : Nat) => clC (List.getD cl i default), AV.bool true, fz Fz.auto 1 0 fun (i x : Nat) => int i64 (List.getD [] i 0), fz Fz.auto 1 (List.length (searchR (KL.mk x.l x.k) gl.l cl true []).fst) fun (i x_1 : Nat) => int i64 (List.getD (searchR (KL.mk x.l x.k) gl.l cl true []).fst i 0), int i64 (searchR (KL.mk x.l x.k) gl.l cl true []).snd]))) hp g) ∧ 7 ≤ 7 ∧ (∀ (c : Nat), c < 7 → nth [encPacks x, encR gl, fz Fz.auto 4 (List.length cl) fun (i : Nat) => clC (List.getD cl i default), AV.bool true, fz Fz.auto 1 0 fun (i x : Nat) => int i64 (List.getD [] i 0), fz Fz.auto 1 (List.length (searchR (KL.mk x.l x.k) gl.l cl true []).fst) fun (i x_1 : Nat) => int i64 (List.getD (searchR (KL.mk x.l x.k) gl.l cl true []).fst i 0), int i64 (searchR (KL.mk x.l x.k) gl.l cl true []).snd] c = over (nth [fz Fz.nil 0 0 fun (x x_1 : Nat) => any, fz Fz.nil 0 0 fun (x x_1 : Nat) => any, fz Fz.nil 0 0 fun (x x_1 : Nat) => any, AV.bool false, fz Fz.nil 0 0 fun (x x_1 : Nat) => any, fz Fz.nil 0 0 fun (x x_1 : Nat) => any, int i64 0]) 0 7 (List.brecOn (motive := fun (x : List AV) => Nat → AV) [encPacks x, encR gl, fz Fz.auto 4 (List.length cl) fun (i : Nat) => clC (List.getD cl i default), AV.bool true, fz Fz.auto 1 0 fun (i x : Nat) => int i64 (List.getD [] i 0), fz Fz.auto 1 (List.length (searchR (KL.mk x.l x.k) gl.l cl true []).fst) fun (i x_1 : Nat) => int i64 (List.getD (searchR (KL.mk x.l x.k) gl.l cl true []).fst i 0), int i64 (searchR (KL.mk x.l x.k) gl.l cl true []).snd] nth._f) c) ∧ 6 ≤ 7 ∧ (Nat.beq (List.length (searchR (KL.mk x.l x.k) gl.l cl true []).fst) 0 = true → Q AEx.ret (St.mk [(4, fz Fz.nil 0 0 fun (x x_2 : Nat) => any), (5, int i64 5)] [cells false 1 (nth [encPacks x]), cells false 7 (nth [encPacks x, encR gl, fz Fz.auto 4 (List.length cl) fun (i : Nat) => clC (List.getD cl i default), AV.bool true, fz Fz.auto 1 0 fun (i x : Nat) => int i64 (List.getD [] i 0), fz Fz.auto 1 (List.length (searchR (KL.mk x.l x.k) gl.l cl true []).fst) fun (i x_2 : Nat) => int i64 (List.getD (searchR (KL.mk x.l x.k) gl.l cl true []).fst i 0), int i64 (searchR (KL.mk x.l x.k) gl.l cl true []).snd])] g)) ∧ (Nat.beq (List.length (searchR (KL.mk x.l x.k) gl.l cl true []).fst) 0 = false → 6 ≤ 7 ∧ Q AEx.ret (St.mk [(4, fz Fz.auto 1 (List.length (searchR (KL.mk x.l x.k) gl.l cl true []).fst) fun (i x_2 : Nat) => int i64 (List.getD (searchR (KL.mk x.l x.k) gl.l cl true []).fst i 0)), (5, int i64 0)] [cells false 1 (nth [encPacks x]), cells false 7 (nth [encPacks x, encR gl, fz Fz.auto 4 (List.length cl) fun (i : Nat) => clC (List.getD cl i default), AV.bool true, fz Fz.auto 1 0 fun (i x : Nat) => int i64 (List.getD [] i 0), fz Fz.auto 1 (List.length (searchR (KL.mk x.l x.k) gl.l cl true []).fst) fun (i x_2 : Nat) => int i64 (List.getD (searchR (KL.mk x.l x.k) gl.l cl true []).fst i 0), int i64 (searchR (KL.mk x.l x.k) gl.l cl true []).snd])] g))) (fun _ => by kernel_rfl) ⟨(by kernel_rfl), ⟨(by omega), ⟨(by omega), ⟨(fun _ _ => ⟨rfl, (hcc _ _)⟩), ⟨(by omega), ⟨(fun _ _ => ⟨rfl, (Go.Avm.Pack.c_none _ _ _ _ (by omega) (by omega))⟩), ⟨(fun _ _ => ⟨rfl, (Go.Avm.Pack.c_from0 _ (KL.mk x.l x.k) (KL.mk gl.l gl.k) (KL.mk cl Fz.auto) _ _ _ (by omega) (by omega) (by omega) (by omega) (by omega) (by omega))⟩), ⟨(by omega), ⟨(fun c hc => match c, hc with | 0, _ => (by kernel_rfl) | 1, _ => (by kernel_rfl) | 2, _ => (by kernel_rfl) | 3, _ => (by kernel_rfl) | 4, _ => (by kernel_rfl) | 5, _ => (by kernel_rfl) | 6, _ => (by kernel_rfl) ), ⟨(by omega), ⟨fun hcc => (nomatch (hb.symm.trans hcc)), fun _ => ⟨(by omega), ?_⟩⟩⟩⟩⟩⟩⟩⟩⟩⟩⟩⟩
    refine (retQ_le (retQ_drop _ _ rfl trivial ⟨⟨trivial, trivial⟩, trivial⟩ rfl) (Le.of_eq (by kernel_rfl)))
def rnearR (x : Ix) (gl : List Rng) (hv : List Int) : List Int × Int × Int := if Nat.beq (searchR x gl (clausesOf x gl) true hv).1.length 0 then ([], 0, 5) else ((searchR x gl (clausesOf x gl) true hv).1, (searchR x gl (clausesOf x gl) true hv).2, 0)
theorem c_rClosest (R : Res) (x : Ix) (gl : KL Rng) (hv : KL Int) (hp : List AObj) (g : R.σ) (hs : small x) (hg : gl.l.length < 1000000) (hck : checkB x gl.l = true) (h0 : 0 < hv.l.length) (hhv : hv.l.length < 1000000) :
    Does Try.prog R 23 [encIx x, encR gl, encI hv] hp g (.ret (.tup 3 (nth [encI ⟨(rnearR x gl.l hv.l).1, .auto⟩, .int .i64 (rnearR x gl.l hv.l).2.1, .int .i64 (rnearR x gl.l hv.l).2.2]))) hp g := by
  obtain ⟨hx, hg4, hr⟩ := check_parts hck
  have hgl := check_goals hck
  obtain ⟨hx1, h8⟩ := formed_le hx
  have hl : ∀ c ∈ clausesOf x gl.l, thereC x gl.l c := fun c hc => there_all hc
  have hll := cls_len hx hg4
  refine does_any' (fun R g => ?_) (by exact ⟨⟨trivial, trivial⟩, ⟨trivial, ⟨trivial, trivial⟩⟩⟩) R hp g
  have hcc : ∀ (hp : List AObj) (g : R.σ), Does Try.prog R 28 [encIx x, encR gl] hp g (.ret (encC ⟨clausesOf x gl.l, .auto⟩)) hp g := fun hp g => c_rClausesF R x gl hp g hs hx hg4
  unfold rnearR
  obtain ⟨cl, hcl⟩ : ∃ cl, clausesOf x gl.l = cl := ⟨_, rfl⟩
  rw [hcl] at hl hll hcc ⊢
  cases hb : Nat.beq (searchR x gl.l cl true hv.l).1.length 0 with
  | true =>
    refine spec_of_wp (nt := 27) (rs := [.tmp 6, .tmp 7, .tmp 8]) (k0 := 0) (by kernel_rfl) (by kernel_rfl) (by kernel_rfl) rfl ?_
    refine vcQ [] (lkL [(0, [1, 2, 3]), (1, [9]), (2, [9, 22]), (3, [6, 7, 8]), (4, [6, 7, 8])]) (lkL [(1, [(4, ROrc.pcall (encC (KL.mk cl Fz.auto))), (8, ROrc.pcall (encI (KL.mk (planL (fun (x : Nat) => -1) (List.length x.l)) Fz.auto))), (9, ROrc.pcall (encS (KL.mk x.l x.k) (KL.mk gl.l gl.k) (KL.mk cl Fz.auto) true (KL.mk hv.l hv.k).l (searchR (KL.mk x.l x.k) (KL.mk gl.l gl.k).l (KL.mk cl Fz.auto).l true (KL.mk hv.l hv.k).l).fst (searchR (KL.mk x.l x.k) (KL.mk gl.l gl.k).l (KL.mk cl Fz.auto).l true (KL.mk hv.l hv.k).l).snd)), (11, ROrc.val (Orc.obj (nth [encPacks x, encR gl, fz Fz.auto 4 (List.length cl) fun (i : Nat) => clC (List.getD cl i default), AV.bool true, fz Fz.auto 1 (List.length hv.l) fun (i x : Nat) => int i64 (List.getD hv.l i 0), fz Fz.auto 1 (List.length (searchR (KL.mk x.l x.k) gl.l cl true hv.l).fst) fun (i x_1 : Nat) => int i64 (List.getD (searchR (KL.mk x.l x.k) gl.l cl true hv.l).fst i 0), int i64 (searchR (KL.mk x.l x.k) gl.l cl true hv.l).snd])))])]) (fun (Q : AEx → St R.σ → Prop) => Tables.follows Try.prog.toTables Departure.mixedOrders = true ∧ 1 ≤ 1 ∧ 1 ≤ 1 ∧ (∀ (hp : List AObj) (g : R.σ), true = true ∧ Does Try.prog R 28 [encIx x, encR gl] hp g (ret (fz Fz.auto 4 (List.length cl) fun (i : Nat) => clC (List.getD cl i default))) hp g) ∧ 1 ≤ 1 ∧ (∀ (hp : List AObj) (g : R.σ), true = true ∧ Does Try.prog R 58 [encIx x] hp g (ret (fz Fz.auto 1 (List.length (planL (fun (x : Nat) => -1) (List.length x.l))) fun (i x_1 : Nat) => int i64 (List.getD (planL (fun (x : Nat) => -1) (List.length x.l)) i 0))) hp g) ∧ (∀ (hp : List AObj) (g : R.σ), true = true ∧ Does Try.prog R 57 [agg 7 (nth [encPacks x, encR gl, fz Fz.auto 4 (List.length cl) fun (i : Nat) => clC (List.getD cl i default), AV.bool true, encI hv, fz Fz.nil 0 0 fun (x x_1 : Nat) => any, int i64 0]), fz Fz.auto 1 (List.length (planL (fun (x : Nat) => -1) (List.length x.l))) fun (i x_1 : Nat) => int i64 (List.getD (planL (fun (x : Nat) => -1) (List.length x.l)) i 0), int i64 0] hp g (ret (agg 7 (nth [encPacks x, encR gl, fz Fz.auto 4 (List.length cl) fun (i : Nat) => clC (List.getD cl i default), AV.bool true, fz Fz.auto 1 (List.length hv.l) fun (i x : Nat) => int i64 (List.getD hv.l i 0), fz Fz.auto 1 (List.length (searchR (KL.mk x.l x.k) gl.l cl true hv.l).fst) fun (i x_1 : Nat) => int i64 (List.getD (searchR (KL.mk x.l x.k) gl.l cl true hv.l).fst i 0), int i64 (searchR (KL.mk x.l x.k) gl.l cl true hv.l).snd]))) hp g) ∧ 7 ≤ 7 ∧ (∀ (c : Nat), c < 7 → nth [encPacks x, encR gl, fz Fz.auto 4 (List.length cl) fun (i : Nat) => clC (List.getD cl i default), AV.bool true, fz Fz.auto 1 (List.length hv.l) fun (i x : Nat) => int i64 (List.getD hv.l i 0), fz Fz.auto 1 (List.length (searchR (KL.mk x.l x.k) gl.l cl true hv.l).fst) fun (i x_1 : Nat) => int i64 (List.getD (searchR (KL.mk x.l x.k) gl.l cl true hv.l).fst i 0), int i64 (searchR (KL.mk x.l x.k) gl.l cl true hv.l).snd] c = over (nth [fz Fz.nil 0 0 fun (x x_1 : Nat) => any, fz Fz.nil 0 0 fun (x x_1 : Nat) => any, fz Fz.nil 0 0 fun (x x_1 : Nat) => any, AV.bool false, fz Fz.nil 0 0 fun (x x_1 : Nat) => any, fz Fz.nil 0 0 fun (x x_1 : Nat) => any, int i64 0]) 0 7 (List.brecOn (motive := fun (x : List AV) => Nat → AV) [encPacks x, encR gl, fz Fz.auto 4 (List.length cl) fun (i : Nat) => clC (List.getD cl i default), AV.bool true, fz Fz.auto 1 (List.length hv.l) fun (i x : Nat) => int i64 (List.getD hv.l i 0), fz Fz.auto 1 (List.length (searchR (KL.mk x.l x.k) gl.l cl true hv.l).fst) fun (i x_1 : Nat) => int i64 (List.getD (searchR (KL.mk x.l x.k) gl.l cl true hv.l).fst i 0), int i64 (searchR (KL.mk x.l x.k) gl.l cl true hv.l).snd] nth._f) c) ∧ 6 ≤ 7 ∧ (Nat.beq (List.length (searchR (KL.mk x.l x.k) gl.l cl true hv.l).fst) 0 = true → Q AEx.ret (St.mk [(6, fz Fz.nil 0 0 fun (x x_2 : Nat) => any), (7, int i64 0), (8, int i64 5)] [cells false 1 (nth [encPacks x]), cells false 7 (nth [encPacks x, encR gl, fz Fz.auto 4 (List.length cl) fun (i : Nat) => clC (List.getD cl i default), AV.bool true, fz Fz.auto 1 (List.length hv.l) fun (i x : Nat) => int i64 (List.getD hv.l i 0), fz Fz.auto 1 (List.length (searchR (KL.mk x.l x.k) gl.l cl true hv.l).fst) fun (i x_2 : Nat) => int i64 (List.getD (searchR (KL.mk x.l x.k) gl.l cl true hv.l).fst i 0), int i64 (searchR (KL.mk x.l x.k) gl.l cl true hv.l).snd])] g)) ∧ (Nat.beq (List.length (searchR (KL.mk x.l x.k) gl.l cl true hv.l).fst) 0 = false → Tables.follows Try.prog.toTables Departure.mixedOrders = true ∧ 6 ≤ 7 ∧ 7 ≤ 7 ∧ Q AEx.ret (St.mk [(6, fz Fz.auto 1 (List.length (searchR (KL.mk x.l x.k) gl.l cl true hv.l).fst) fun (i x_2 : Nat) => int i64 (List.getD (searchR (KL.mk x.l x.k) gl.l cl true hv.l).fst i 0)), (7, int i64 (searchR (KL.mk x.l x.k) gl.l cl true hv.l).snd), (8, int i64 0)] [cells false 1 (nth [encPacks x]), cells false 7 (nth [encPacks x, encR gl, fz Fz.auto 4 (List.length cl) fun (i : Nat) => clC (List.getD cl i default), AV.bool true, fz Fz.auto 1 (List.length hv.l) fun (i x : Nat) => int i64 (List.getD hv.l i 0), fz Fz.auto 1 (List.length (searchR (KL.mk x.l x.k) gl.l cl true hv.l).fst) fun (i x_2 : Nat) => int i64 (List.getD (searchR (KL.mk x.l x.k) gl.l cl true hv.l).fst i 0), int i64 (searchR (KL.mk x.l x.k) gl.l cl true hv.l).snd])] g))) (fun _ => by kernel_rfl) ⟨(by kernel_rfl), ⟨(by omega), ⟨(by omega), ⟨(fun _ _ => ⟨rfl, (hcc _ _)⟩), ⟨(by omega), ⟨(fun _ _ => ⟨rfl, (Go.Avm.Pack.c_none _ _ _ _ (by omega) (by omega))⟩), ⟨(fun _ _ => ⟨rfl, (Go.Avm.Pack.c_from1 _ (KL.mk x.l x.k) (KL.mk gl.l gl.k) (KL.mk cl Fz.auto) _ (KL.mk hv.l hv.k) _ _ (by omega) (by omega) (by omega) (by omega) (by omega) (by omega) (by omega) (by omega))⟩), ⟨(by omega), ⟨(fun c hc => match c, hc with | 0, _ => (by kernel_rfl) | 1, _ => (by kernel_rfl) | 2, _ => (by kernel_rfl) | 3, _ => (by kernel_rfl) | 4, _ => (by kernel_rfl) | 5, _ => (by kernel_rfl) | 6, _ => (by kernel_rfl) ), ⟨(by omega), ⟨fun _ => ?_, fun hcc => (nomatch (hb.symm.trans hcc))⟩⟩⟩⟩⟩⟩⟩⟩⟩⟩⟩
    refine (retQ_le (retQ_drop _ _ rfl trivial ⟨⟨⟨trivial, trivial⟩, trivial⟩, trivial⟩ rfl) (Le.tup (fun j hj => match j, hj with | 0, _ => Le.nil_auto | 1, _ => (Le.of_eq (by kernel_rfl)) | 2, _ => (Le.of_eq (by kernel_rfl)) )))
  | false =>
    refine spec_of_wp (nt := 27) (rs := [.tmp 6, .tmp 7, .tmp 8]) (k0 := 0) (by kernel_rfl) (by kernel_rfl) (by kernel_rfl) rfl ?_
    refine vcQ [] (lkL [(0, [1, 2, 3]), (1, [9]), (2, [9, 22]), (3, [6, 7, 8]), (4, [6, 7, 8])]) (lkL [(1, [(4, ROrc.pcall (encC (KL.mk cl Fz.auto))), (8, ROrc.pcall (encI (KL.mk (planL (fun (x : Nat) => -1) (List.length x.l)) Fz.auto))), (9, ROrc.pcall (encS (KL.mk x.l x.k) (KL.mk gl.l gl.k) (KL.mk cl Fz.auto) true (KL.mk hv.l hv.k).l (searchR (KL.mk x.l x.k) (KL.mk gl.l gl.k).l (KL.mk cl Fz.auto).l true (KL.mk hv.l hv.k).l).fst (searchR (KL.mk x.l x.k) (KL.mk gl.l gl.k).l (KL.mk cl Fz.auto).l true (KL.mk hv.l hv.k).l).snd)), (11, ROrc.val (Orc.obj (nth [encPacks x, encR gl, fz Fz.auto 4 (List.length cl) fun (i : Nat) => clC (List.getD cl i default), AV.bool true, fz Fz.auto 1 (List.length hv.l) fun (i x : Nat) => int i64 (List.getD hv.l i 0), fz Fz.auto 1 (List.length (searchR (KL.mk x.l x.k) gl.l cl true hv.l).fst) fun (i x_1 : Nat) => int i64 (List.getD (searchR (KL.mk x.l x.k) gl.l cl true hv.l).fst i 0), int i64 (searchR (KL.mk x.l x.k) gl.l cl true hv.l).snd])))])]) (fun (Q : AEx → St R.σ → Prop) => Tables.follows Try.prog.toTables Departure.mixedOrders = true ∧ 1 ≤ 1 ∧ 1 ≤ 1 ∧ (∀ (hp : List AObj) (g : R.σ), true = true ∧ Does Try.prog R 28 [encIx x, encR gl] hp g (ret (fz Fz.auto 4 (List.length cl) fun (i : Nat) => clC (List.getD cl i default))) hp g) ∧ 1 ≤ 1 ∧ (∀ (hp : List AObj) (g : R.σ), true = true ∧ Does Try.prog R 58 [encIx x] hp g (ret (fz Fz.auto 1 (List.length (planL (fun (x : Nat) => -1) (List.length x.l))) fun (i x_1 : Nat) => int i64 (List.getD (planL (fun (x : Nat) => -1) (List.length x.l)) i 0))) hp g) ∧ (∀ (hp : List AObj) (g : R.σ), true = true ∧ Does Try.prog R 57 [agg 7 (nth [encPacks x, encR gl, fz Fz.auto 4 (List.length cl) fun (i : Nat) => clC (List.getD cl i default), AV.bool true, encI hv, fz Fz.nil 0 0 fun (x x_1 : Nat) => any, int i64 0]), fz Fz.auto 1 (List.length (planL (fun (x : Nat) => -1) (List.length x.l))) fun (i x_1 : Nat) => int i64 (List.getD (planL (fun (x : Nat) => -1) (List.length x.l)) i 0), int i64 0] hp g (ret (agg 7 (nth [encPacks x, encR gl, fz Fz.auto 4 (List.length cl) fun (i : Nat) => clC (List.getD cl i default), AV.bool true, fz Fz.auto 1 (List.length hv.l) fun (i x : Nat) => int i64 (List.getD hv.l i 0), fz Fz.auto 1 (List.length (searchR (KL.mk x.l x.k) gl.l cl true hv.l).fst) fun (i x_1 : Nat) => int i64 (List.getD (searchR (KL.mk x.l x.k) gl.l cl true hv.l).fst i 0), int i64 (searchR (KL.mk x.l x.k) gl.l cl true hv.l).snd]))) hp g) ∧ 7 ≤ 7 ∧ (∀ (c : Nat), c < 7 → nth [encPacks x, encR gl, fz Fz.auto 4 (List.length cl) fun (i : Nat) => clC (List.getD cl i default), AV.bool true, fz Fz.auto 1 (List.length hv.l) fun (i x : Nat) => int i64 (List.getD hv.l i 0), fz Fz.auto 1 (List.length (searchR (KL.mk x.l x.k) gl.l cl true hv.l).fst) fun (i x_1 : Nat) => int i64 (List.getD (searchR (KL.mk x.l x.k) gl.l cl true hv.l).fst i 0), int i64 (searchR (KL.mk x.l x.k) gl.l cl true hv.l).snd] c = over (nth [fz Fz.nil 0 0 fun (x x_1 : Nat) => any, fz Fz.nil 0 0 fun (x x_1 : Nat) => any, fz Fz.nil 0 0 fun (x x_1 : Nat) => any, AV.bool false, fz Fz.nil 0 0 fun (x x_1 : Nat) => any, fz Fz.nil 0 0 fun (x x_1 : Nat) => any, int i64 0]) 0 7 (List.brecOn (motive := fun (x : List AV) => Nat → AV) [encPacks x, encR gl, fz Fz.auto 4 (List.length cl) fun (i : Nat) => clC (List.getD cl i default), AV.bool true, fz Fz.auto 1 (List.length hv.l) fun (i x : Nat) => int i64 (List.getD hv.l i 0), fz Fz.auto 1 (List.length (searchR (KL.mk x.l x.k) gl.l cl true hv.l).fst) fun (i x_1 : Nat) => int i64 (List.getD (searchR (KL.mk x.l x.k) gl.l cl true hv.l).fst i 0), int i64 (searchR (KL.mk x.l x.k) gl.l cl true hv.l).snd] nth._f) c) ∧ 6 ≤ 7 ∧ (Nat.beq (List.length (searchR (KL.mk x.l x.k) gl.l cl true hv.l).fst) 0 = true → Q AEx.ret (St.mk [(6, fz Fz.nil 0 0 fun (x x_2 : Nat) => any), (7, int i64 0), (8, int i64 5)] [cells false 1 (nth [encPacks x]), cells false 7 (nth [encPacks x, encR gl, fz Fz.auto 4 (List.length cl) fun (i : Nat) => clC (List.getD cl i default), AV.bool true, fz Fz.auto 1 (List.length hv.l) fun (i x : Nat) => int i64 (List.getD hv.l i 0), fz Fz.auto 1 (List.length (searchR (KL.mk x.l x.k) gl.l cl true hv.l).fst) fun (i x_2 : Nat) => int i64 (List.getD (searchR (KL.mk x.l x.k) gl.l cl true hv.l).fst i 0), int i64 (searchR (KL.mk x.l x.k) gl.l cl true hv.l).snd])] g)) ∧ (Nat.beq (List.length (searchR (KL.mk x.l x.k) gl.l cl true hv.l).fst) 0 = false → Tables.follows Try.prog.toTables Departure.mixedOrders = true ∧ 6 ≤ 7 ∧ 7 ≤ 7 ∧ Q AEx.ret (St.mk [(6, fz Fz.auto 1 (List.length (searchR (KL.mk x.l x.k) gl.l cl true hv.l).fst) fun (i x_2 : Nat) => int i64 (List.getD (searchR (KL.mk x.l x.k) gl.l cl true hv.l).fst i 0)), (7, int i64 (searchR (KL.mk x.l x.k) gl.l cl true hv.l).snd), (8, int i64 0)] [cells false 1 (nth [encPacks x]), cells false 7 (nth [encPacks x, encR gl, fz Fz.auto 4 (List.length cl) fun (i : Nat) => clC (List.getD cl i default), AV.bool true, fz Fz.auto 1 (List.length hv.l) fun (i x : Nat) => int i64 (List.getD hv.l i 0), fz Fz.auto 1 (List.length (searchR (KL.mk x.l x.k) gl.l cl true hv.l).fst) fun (i x_2 : Nat) => int i64 (List.getD (searchR (KL.mk x.l x.k) gl.l cl true hv.l).fst i 0), int i64 (searchR (KL.mk x.l x.k) gl.l cl true hv.l).snd])] g))) (fun _ => by kernel_rfl) ⟨(by kernel_rfl), ⟨(by omega), ⟨(by omega), ⟨(fun _ _ => ⟨rfl, (hcc _ _)⟩), ⟨(by omega), ⟨(fun _ _ => ⟨rfl, (Go.Avm.Pack.c_none _ _ _ _ (by omega) (by omega))⟩), ⟨(fun _ _ => ⟨rfl, (Go.Avm.Pack.c_from1 _ (KL.mk x.l x.k) (KL.mk gl.l gl.k) (KL.mk cl Fz.auto) _ (KL.mk hv.l hv.k) _ _ (by omega) (by omega) (by omega) (by omega) (by omega) (by omega) (by omega) (by omega))⟩), ⟨(by omega), ⟨(fun c hc => match c, hc with | 0, _ => (by kernel_rfl) | 1, _ => (by kernel_rfl) | 2, _ => (by kernel_rfl) | 3, _ => (by kernel_rfl) | 4, _ => (by kernel_rfl) | 5, _ => (by kernel_rfl) | 6, _ => (by kernel_rfl) ), ⟨(by omega), ⟨fun hcc => (nomatch (hb.symm.trans hcc)), fun _ => ⟨(by kernel_rfl), ⟨(by omega), ⟨(by omega), ?_⟩⟩⟩⟩⟩⟩⟩⟩⟩⟩⟩⟩⟩⟩
    refine (retQ_le (retQ_drop _ _ rfl trivial ⟨⟨⟨trivial, trivial⟩, trivial⟩, trivial⟩ rfl) (Le.of_eq (by kernel_rfl)))
end Go.Avm.Pack
namespace Go.Avm.Pack
open Go Go.Avm Go.Proofs
open Go.IntKind (i64 u64)
open Go.Avm.AV (int bool any fz fp sl ow ref fn ifc val agg tup)
open Go.Avm.AObj (cells dead)
open Go.Avm.Oc (ret)
set_option maxRecDepth 4000
theorem CloneC0 (R : Res) (l : List Clause) (g : R.σ) (h0 : 0 < l.length) (h1 : l.length < 10000) : Does Try.prog R 61 [encC ⟨l, .auto⟩] [] g (.ret (.sl 1 0 (0 + l.length) (0 + l.length) false 4)) [.cells false 0 (fun j => nth [.int .i64 0, .int .i64 0, .bool false, .int .i64 0] (j % 4)), .cells false ((0 + l.length) * 4) (clsL l)] g := by
  refine spec_of_wp (nt := 8) (rs := [.tmp 2]) (k0 := 0) (by kernel_rfl) (by kernel_rfl) (by kernel_rfl) rfl ?_
  refine vcQ [] (lkL [(0, [0]), (1, [0, 4]), (2, [2]), (3, [2])]) (lkL [(3, [(2, ROrc.val (Orc.obj (clsL l)))])]) (fun (Q : AEx → St R.σ → Prop) => (Nat.beq (List.length l) 0 = true → Q AEx.ret (St.mk [(2, fz Fz.nil 0 0 fun (x x_1 : Nat) => any)] [] g)) ∧ (Nat.beq (List.length l) 0 = false → 0 < 0 + List.length l ∧ 0 < List.length l ∧ 0 < 4 ∧ (0 + List.length l) * 32 ≤ maxRoom ∧ 0 + List.length l ≤ maxRoom ∧ 0 ≤ 0 ∧ (∀ (c : Nat), c < (0 + List.length l) * 4 → clsL l c = plainJ 4 0 (fun (i j : Nat) => nth [int i64 0, int i64 0, AV.bool false, int i64 0] ((0 + i * 4 + j) % 4)) (fun (i : Nat) => clC (List.getD l i default)) c) ∧ Q AEx.ret (St.mk [(2, sl 1 0 (0 + List.length l) (0 + List.length l) false 4)] [cells false 0 fun (j : Nat) => nth [int i64 0, int i64 0, AV.bool false, int i64 0] (j % 4), cells false ((0 + List.length l) * 4) (clsL l)] g))) (fun _ => by kernel_rfl) ⟨fun c1 => ?_, fun c1 => ⟨(by omega), ⟨(by omega), ⟨(by omega), ⟨?_, ⟨?_, ⟨(by omega), ⟨?_, ?_⟩⟩⟩⟩⟩⟩⟩⟩
  · exfalso
    have := Nat.eq_of_beq_eq_true c1
    omega
  · exact Nat.le_trans (show (0 + l.length) * 32 ≤ 320000 by omega) (by decide)
  · exact Nat.le_trans (show 0 + l.length ≤ 10000 by omega) (by decide)
  · intro c hc
    unfold plainJ clsL clsC
    rw [if_neg (by omega), show c - 0 * 4 = c by omega]
  · refine (retQ_le (retQ_same' _ _ rfl trivial rfl rfl rfl) (Le.refl _))
def delL (l : List Clause) (i : Nat) : Nat → AV := fun c => if c < (l.length - 1) * 4 then clsL (l.eraseIdx i) c else clsL l c
theorem erase_lo {α : Type} {l : List α} {i k : Nat} {d : α} (h : k < i) : (l.eraseIdx i).getD k d = l.getD k d := by
  rw [List.getD_eq_getElem?_getD, List.getD_eq_getElem?_getD, List.getElem?_eraseIdx, if_pos h]
theorem erase_hi {α : Type} {l : List α} {i k : Nat} {d : α} (h : i ≤ k) : (l.eraseIdx i).getD k d = l.getD (k + 1) d := by
  rw [List.getD_eq_getElem?_getD, List.getD_eq_getElem?_getD, List.getElem?_eraseIdx, if_neg (by omega)]
theorem below_delL {k : Nat} (l : List Clause) (i c : Nat) : Below k (delL l i c) := by
  unfold delL; split <;> exact below_clsL _ _
theorem Delete_mid (R : Res) (l : List Clause) (i n : Nat) (g : R.σ) (hn : l.length = n) (hi : i + 1 < n) (h1 : n < 10000) : Does Try.prog R 60 [.sl 0 0 n n false 4, .int .i64 i, .int .i64 ((i : Int) + 1)] [.cells false (n * 4) (clsL l)] g (.ret (.fz .opn 4 (i + (n - (i + 1))) (fun a b => delL l i (0 + a * 4 + b)))) [.dead] g := by
  refine spec_of_wp (nt := 33) (rs := [.tmp 6]) (k0 := 1) (by kernel_rfl) (by kernel_rfl) (by kernel_rfl) rfl ?_
  refine vcQ [] (lkL [(0, [0, 1, 2]), (1, [0, 1, 2]), (2, [0, 1, 2, 16]), (3, [6]), (4, [0, 1, 2, 7]), (5, [0, 7]), (6, [0]), (7, [6])]) (lkL [(5, [(6, ROrc.own (sl 1 0 (i + (n - (i + 1))) n false 4) [dead, cells false (n * 4) (delL l i)] g)]), (6, [(5, ROrc.own any [dead, cells false (0 + (i + (n - (i + 1))) * 4) (delL l i)] g)])]) (fun (Q : AEx → St R.σ → Prop) => (0 ≤ (↑n : Int) ∧ (↑n : Int) ≤ (↑n : Int)) ∧ (0 ≤ (↑i : Int) + 1 ∧ (↑i : Int) + 1 ≤ (↑n : Int)) ∧ (0 ≤ (↑i : Int) ∧ (↑i : Int) ≤ (↑(i + 1) : Int)) ∧ i < n ∧ (((↑i : Int) == (↑i : Int) + 1) = true → Q AEx.ret (St.mk [(6, sl 0 0 n n false 4)] [cells false (n * 4) (clsL l)] g)) ∧ (((↑i : Int) == (↑i : Int) + 1) = false → Tables.follows Try.prog.toTables Departure.mixedOrders = true ∧ (0 ≤ (↑i : Int) ∧ (↑i : Int) ≤ (↑n : Int)) ∧ 0 < n ∧ n ≤ n ∧ (0 ≤ (↑i : Int) + 1 ∧ (↑i : Int) + 1 ≤ (↑n : Int)) ∧ i + 1 < n ∧ OpOk Try.prog R (Oper.mk (some 26) (Op.call (Call.mk (Callee.builtin Builtin.append) #[Operand.tmp 22, Operand.tmp 25] #[42, 42])) 42 "slices.go:232" #[Edge.mk 2 Ground.data, Edge.mk 5 Ground.data] none) (evO [Row.mk (some 25) none (sl 0 (0 + (i + 1) * 4) (n - (i + 1)) (n - (i + 1)) false 4) false (some []) [], Row.mk (some 24) none (int i64 ((↑i : Int) + 1)) false (some []) [], Row.mk (some 23) none (sl 0 0 n n false 4) false (some []) [], Row.mk (some 22) none (sl 0 0 (i - 0) (n - 0) false 4) false (some []) [], Row.mk (some 21) none (int i64 (↑i : Int)) false (some []) [], Row.mk (some 20) none (sl 0 0 n n false 4) false (some []) []] [(0, sl 0 0 n n false 4), (1, int i64 (↑i : Int)), (2, int i64 ((↑i : Int) + 1)), (7, int i64 (↑n : Int))] []) [cells false (n * 4) (clsL l)] g (sl 1 0 (i + (n - (i + 1))) n false 4) [dead, cells false (n * 4) (delL l i)] g ∧ (0 ≤ (↑n : Int) ∧ (↑n : Int) ≤ (↑n : Int)) ∧ (0 ≤ (↑(i + (n - (i + 1))) : Int) ∧ (↑(i + (n - (i + 1))) : Int) ≤ (↑n : Int)) ∧ i + (n - (i + 1)) < n ∧ OpOk Try.prog R (Oper.mk none (Op.call (Call.mk (Callee.builtin Builtin.clear) #[Operand.tmp 31] #[42])) 0 "slices.go:233" #[Edge.mk 4 Ground.data] none) (evO [Row.mk (some 31) none (sl 1 (0 + (i + (n - (i + 1))) * 4) (n - (i + (n - (i + 1)))) (n - (i + (n - (i + 1)))) false 4) false (some []) [], Row.mk (some 30) none (int i64 (↑n : Int)) false (some []) [], Row.mk (some 29) none (int i64 (↑(i + (n - (i + 1))) : Int)) false (some []) [], Row.mk (some 28) none (sl 1 0 (i + (n - (i + 1))) n false 4) false (some []) [], Row.mk (some 27) none (sl 1 0 (i + (n - (i + 1))) n false 4) false (some []) []] [(0, sl 1 0 (i + (n - (i + 1))) n false 4), (7, int i64 (↑n : Int))] []) [dead, cells false (n * 4) (delL l i)] g any [dead, cells false (0 + (i + (n - (i + 1))) * 4) (delL l i)] g ∧ Q AEx.ret (St.mk [(6, sl 1 0 (i + (n - (i + 1))) n false 4)] [dead, cells false (0 + (i + (n - (i + 1))) * 4) (delL l i)] g))) (fun _ => by kernel_rfl) ⟨(by omega), ⟨(by omega), ⟨(by omega), ⟨(by omega), ⟨fun c1 => have c1 : (↑i : Int) = (↑i : Int) + 1 := (beq_iff_eq.mp c1); ?_, fun c1 => have c1 : ¬(↑i : Int) = (↑i : Int) + 1 := (beq_eq_false_iff_ne.mp c1); ⟨(by kernel_rfl), ⟨(by omega), ⟨(by omega), ⟨(by omega), ⟨(by omega), ⟨(by omega), ⟨?_, ⟨(by omega), ⟨(by omega), ⟨(by omega), ⟨?_, ?_⟩⟩⟩⟩⟩⟩⟩⟩⟩⟩⟩⟩⟩⟩⟩⟩
  · exfalso; omega
  · obtain ⟨ei, hei⟩ := elemSize_of (ty := tyOf Try.prog) (t := 42) (es := 4) (by kernel_rfl)
    refine opOk_appendIn (t := 42) (s := .tmp 22) (x := .tmp 25) (ob := 0) (off := 0) (len := i) (cap := n) (es := 4) (N := n * 4) (n := n - (i + 1)) (ex := false) (ei := ei) (get0 := clsL l) (get' := delL l i) (new := fun a b => clsL l (0 + (i + 1) * 4 + a * 4 + b)) (ob1 := [0 + (i + 1) * 4 + (n - (i + 1)) * 4 ≤ n * 4]) rfl rfl rfl rfl rfl rfl hei rfl ⟨by omega, trivial⟩ (by omega) (by omega) (by omega) (by omega) (fun c hc => ?_) (fun c h1 h2 => ?_)
    · unfold delL
      rw [if_pos (by omega)]
      show clC ((l.eraseIdx i).getD (c / 4) default) (c % 4) = if c < i * 4 then clsL l (0 + c / 4 * 4 + c % 4) else clsL l (0 + (i + 1) * 4 + (c - i * 4) / 4 * 4 + (c - i * 4) % 4)
      by_cases h : c < i * 4
      · rw [if_pos h, erase_lo (by omega), show 0 + c / 4 * 4 + c % 4 = c by omega]; rfl
      · rw [if_neg h, erase_hi (by omega), show 0 + (i + 1) * 4 + (c - i * 4) / 4 * 4 + (c - i * 4) % 4 = c + 4 by omega]
        show _ = clC (l.getD ((c + 4) / 4) default) ((c + 4) % 4)
        rw [show (c + 4) / 4 = c / 4 + 1 by omega, show (c + 4) % 4 = c % 4 by omega]
    · unfold delL
      rw [if_neg (by omega), Nat.zero_add]
  · obtain ⟨ei, hei⟩ := elemSize_of (ty := tyOf Try.prog) (t := 42) (es := 4) (by kernel_rfl)
    exact opOk_clear (t := 42) (x := .tmp 31) (ob := 1) (off := 0 + (i + (n - (i + 1))) * 4) (len := n - (i + (n - (i + 1)))) (cap := n - (i + (n - (i + 1)))) (N := n * 4) (es := 4) (ex := false) (ei := ei) (get0 := delL l i) rfl rfl rfl rfl rfl rfl hei (by omega) (by omega) (by omega) (by omega)
  · refine (retQ_le (retQ_frz 1 [1] _ _ rfl trivial (by omega) (by exact ⟨(fun _ _ => (by apply Go.Avm.Pack.below_delL)), ⟨⟨(by simp at * <;> omega), (by simp at * <;> omega)⟩, trivial⟩⟩) (by exact trivial) (by exact trivial) (by kernel_rfl) rfl rfl) (Le.refl _))
theorem Delete_end (R : Res) (l : List Clause) (i n : Nat) (g : R.σ) (hn : l.length = n) (hi : i + 1 = n) (h1 : n < 10000) : Does Try.prog R 60 [.sl 0 0 n n false 4, .int .i64 i, .int .i64 ((i : Int) + 1)] [.cells false (n * 4) (clsL l)] g (.ret (.fz .opn 4 i (fun a b => clsL l (0 + a * 4 + b)))) [.dead] g := by
  refine spec_of_wp (nt := 33) (rs := [.tmp 6]) (k0 := 1) (by kernel_rfl) (by kernel_rfl) (by kernel_rfl) rfl ?_
  refine vcQ [] (lkL [(0, [0, 1, 2]), (1, [0, 1, 2]), (2, [0, 1, 2, 16]), (3, [6]), (4, [0, 1, 2, 7]), (5, [0, 7]), (6, [0]), (7, [6])]) (lkL [(5, [(5, ROrc.val (Orc.obj fun (x : Nat) => any)), (6, ROrc.own (sl 0 0 i n false 4) [cells false (n * 4) (clsL l)] g)]), (6, [(5, ROrc.own any [cells false (0 + i * 4) (clsL l)] g)])]) (fun (Q : AEx → St R.σ → Prop) => (0 ≤ (↑n : Int) ∧ (↑n : Int) ≤ (↑n : Int)) ∧ (0 ≤ (↑i : Int) + 1 ∧ (↑i : Int) + 1 ≤ (↑n : Int)) ∧ (0 ≤ (↑i : Int) ∧ (↑i : Int) ≤ (↑(i + 1) : Int)) ∧ i < n ∧ (((↑i : Int) == (↑i : Int) + 1) = true → Q AEx.ret (St.mk [(6, sl 0 0 n n false 4)] [cells false (n * 4) (clsL l)] g)) ∧ (((↑i : Int) == (↑i : Int) + 1) = false → Tables.follows Try.prog.toTables Departure.mixedOrders = true ∧ (0 ≤ (↑i : Int) ∧ (↑i : Int) ≤ (↑n : Int)) ∧ 0 < n ∧ n ≤ n ∧ (0 ≤ (↑i : Int) + 1 ∧ (↑i : Int) + 1 ≤ (↑n : Int)) ∧ i + 1 = n ∧ OpOk Try.prog R (Oper.mk (some 26) (Op.call (Call.mk (Callee.builtin Builtin.append) #[Operand.tmp 22, Operand.tmp 25] #[42, 42])) 42 "slices.go:232" #[Edge.mk 2 Ground.data, Edge.mk 5 Ground.data] none) (evO [Row.mk (some 25) none (fz Fz.opn 4 0 fun (x x_1 : Nat) => any) false (some []) [], Row.mk (some 24) none (int i64 ((↑i : Int) + 1)) false (some []) [], Row.mk (some 23) none (sl 0 0 n n false 4) false (some []) [], Row.mk (some 22) none (sl 0 0 (i - 0) (n - 0) false 4) false (some []) [], Row.mk (some 21) none (int i64 (↑i : Int)) false (some []) [], Row.mk (some 20) none (sl 0 0 n n false 4) false (some []) []] [(0, sl 0 0 n n false 4), (1, int i64 (↑i : Int)), (2, int i64 ((↑i : Int) + 1)), (7, int i64 (↑n : Int))] []) [cells false (n * 4) (clsL l)] g (sl 0 0 i n false 4) [cells false (n * 4) (clsL l)] g ∧ (0 ≤ (↑n : Int) ∧ (↑n : Int) ≤ (↑n : Int)) ∧ (0 ≤ (↑i : Int) ∧ (↑i : Int) ≤ (↑n : Int)) ∧ i < n ∧ OpOk Try.prog R (Oper.mk none (Op.call (Call.mk (Callee.builtin Builtin.clear) #[Operand.tmp 31] #[42])) 0 "slices.go:233" #[Edge.mk 4 Ground.data] none) (evO [Row.mk (some 31) none (sl 0 (0 + i * 4) (n - i) (n - i) false 4) false (some []) [], Row.mk (some 30) none (int i64 (↑n : Int)) false (some []) [], Row.mk (some 29) none (int i64 (↑i : Int)) false (some []) [], Row.mk (some 28) none (sl 0 0 i n false 4) false (some []) [], Row.mk (some 27) none (sl 0 0 i n false 4) false (some []) []] [(0, sl 0 0 i n false 4), (7, int i64 (↑n : Int))] []) [cells false (n * 4) (clsL l)] g any [cells false (0 + i * 4) (clsL l)] g ∧ Q AEx.ret (St.mk [(6, sl 0 0 i n false 4)] [cells false (0 + i * 4) (clsL l)] g))) (fun _ => by kernel_rfl) ⟨(by omega), ⟨(by omega), ⟨(by omega), ⟨(by omega), ⟨fun c1 => have c1 : (↑i : Int) = (↑i : Int) + 1 := (beq_iff_eq.mp c1); ?_, fun c1 => have c1 : ¬(↑i : Int) = (↑i : Int) + 1 := (beq_eq_false_iff_ne.mp c1); ⟨(by kernel_rfl), ⟨(by omega), ⟨(by omega), ⟨(by omega), ⟨(by omega), ⟨(by omega), ⟨?_, ⟨(by omega), ⟨(by omega), ⟨(by omega), ⟨?_, ?_⟩⟩⟩⟩⟩⟩⟩⟩⟩⟩⟩⟩⟩⟩⟩⟩
  · exfalso; omega
  · obtain ⟨ei, hei⟩ := elemSize_of (ty := tyOf Try.prog) (t := 42) (es := 4) (by kernel_rfl)
    exact opOk_appendZero (t := 42) (es := 4) (es1 := 4) (es2 := 4) (s := .tmp 22) (x := .tmp 25) (ob := 0) (off := 0) (len := i) (cap := n) (ex := false) (ei := ei) (get := fun _ _ => .any) rfl rfl rfl rfl rfl hei rfl (by omega)
  · obtain ⟨ei, hei⟩ := elemSize_of (ty := tyOf Try.prog) (t := 42) (es := 4) (by kernel_rfl)
    exact opOk_clear (t := 42) (x := .tmp 31) (ob := 0) (off := 0 + i * 4) (len := n - i) (cap := n - i) (N := n * 4) (es := 4) (ex := false) (ei := ei) (get0 := clsL l) rfl rfl rfl rfl rfl rfl hei (by omega) (by omega) (by omega) (by omega)
  · refine (retQ_le (retQ_frz 1 [0] _ _ rfl trivial (by omega) (by exact ⟨(fun _ _ => (by apply Go.Avm.Pack.below_clsL)), ⟨⟨(by simp at * <;> omega), (by simp at * <;> omega)⟩, trivial⟩⟩) (by exact trivial) (by exact trivial) (by kernel_rfl) rfl rfl) (Le.refl _))
end Go.Avm.Pack
namespace Go.Avm.Pack
open Go Go.Avm Go.Proofs
open Go.IntKind (i64 u64)
open Go.Avm.AV (int bool any fz fp sl ow ref fn ifc val agg tup)
open Go.Avm.AObj (cells dead)
open Go.Avm.Oc (ret)
set_option maxRecDepth 4000
theorem c_CloneC (R : Res) (l : KL Clause) (g : R.σ) (h0 : 0 < l.l.length) (h1 : l.l.length < 10000) : Does Try.prog R 61 [encC l] [] g (.ret (.sl 1 0 l.l.length l.l.length false 4)) [.dead, .cells false (l.l.length * 4) (clsL l.l)] g := by
  have h := CloneC0 R l.l g h0 h1
  rw [Nat.zero_add] at h
  exact does_le (does_conv h ⟨Le.any_auto h0, trivial⟩ (Le.refl _)) ⟨LeO.dead _, LeO.rflc, trivial⟩
theorem c_Delete (R : Res) (l : List Clause) (k : Int) (g : R.σ) (h0 : 0 ≤ k) (hk : k < l.length) (h1 : l.length < 10000) : Does Try.prog R 60 [.sl 0 0 l.length l.length false 4, .int .i64 k, .int .i64 (k + 1)] [.cells false (l.length * 4) (clsL l)] g (.ret (encC ⟨l.eraseIdx k.toNat, .may⟩)) [.dead] g := by
  obtain ⟨i, rfl⟩ : ∃ i : Nat, k = i := ⟨k.toNat, by omega⟩
  have hi : i < l.length := by omega
  have he : (l.eraseIdx i).length = l.length - 1 := by rw [List.length_eraseIdx, if_pos hi]
  have key : ∀ (n : Nat) (f : Nat → Nat → AV), n = l.length - 1 → (∀ a b, a < n → b < 4 → f a b = clC ((l.eraseIdx i).getD a default) b) → Le (.fz .opn 4 n f) (encC ⟨l.eraseIdx i, .may⟩) := fun n f hn hf => by
    subst hn
    rw [← he] at hf ⊢
    exact leK_ok rfl hf
  rcases Nat.lt_or_ge (i + 1) l.length with h | h
  · refine does_conv (Delete_mid R l i l.length g rfl h h1) ⟨Le.refl _, Le.refl _, Le.refl _, trivial⟩ (key _ _ (by omega) (fun a b ha hb => ?_))
    show delL l i (0 + a * 4 + b) = _
    unfold delL
    rw [if_pos (by omega)]
    show clC ((l.eraseIdx i).getD ((0 + a * 4 + b) / 4) default) ((0 + a * 4 + b) % 4) = _
    rw [show (0 + a * 4 + b) / 4 = a by omega, show (0 + a * 4 + b) % 4 = b by omega]
  · refine does_conv (Delete_end R l i l.length g rfl (by omega) h1) ⟨Le.refl _, Le.refl _, Le.refl _, trivial⟩ (key _ _ (by omega) (fun a b ha hb => ?_))
    show clC (l.getD ((0 + a * 4 + b) / 4) default) ((0 + a * 4 + b) % 4) = _
    rw [show (0 + a * 4 + b) / 4 = a by omega, show (0 + a * 4 + b) % 4 = b by omega, erase_lo ha]
def coreAt (kept : List Clause → Bool) : Nat → List Clause → List Clause
  | 0, c => c
  | i + 1, c => coreAt kept i (if kept (c.eraseIdx i) then c else c.eraseIdx i)
def corePick (kept : List Clause → Bool) (l : List Clause) : List Clause × Int := if kept l then ([], 5) else (coreAt kept l.length l, 0)
def coreR (x : Ix) (gl : List Rng) : List Clause × Int := if checkB x gl then corePick (keptB x gl) (clausesOf x gl) else ([], 2)
theorem cls_len' {x : Ix} {gl : List Rng} (hx : formedB x = true) (hg : gl.length ≤ 4) : (clausesOf x gl).length < 10000 := by
  have := preP_len hx (m := gl.length) x.l.length (Nat.le_refl _)
  have := (formed_le hx).2
  unfold clausesOf
  omega
theorem c_Core (R : Res) (x : Ix) (gl : KL Rng) (hp : List AObj) (g : R.σ) (hs : small x) (hg : gl.l.length < 1000000) :
    Does Try.prog R 19 [encIx x, encR gl] hp g (.ret (.tup 2 (nth [encC ⟨(coreR x gl.l).1, .may⟩, .int .i64 (coreR x gl.l).2]))) hp g := by
  refine does_any' (fun R g => ?_) (by exact ⟨⟨trivial, trivial⟩, ⟨trivial, trivial⟩⟩) R hp g
  cases hck : checkB x gl.l with
  | false =>
    have e : coreR x gl.l = ([], 2) := by unfold coreR; rw [hck]; rfl
    rw [e]
    refine spec_of_wp (nt := 41) (rs := [.tmp 4, .tmp 5]) (k0 := 0) (by kernel_rfl) (by kernel_rfl) (by kernel_rfl) rfl ?_
    refine vcQ [] (lkL [(0, [1, 2]), (1, [1, 2, 13]), (2, [4, 5]), (3, [6]), (4, [6, 7]), (5, [6, 7, 21])]) (lkL [(1, [(2, ROrc.pcall (int i64 2))]), (3, [(4, ROrc.val (Orc.obj (nth [encPacks x, encR gl])))]), (4, [(1, ROrc.call (ow true 4 (List.length (clausesOf x gl.l)) 4) [cells false 1 (nth [encPacks x]), cells false 2 (nth [encPacks x, encR gl]), dead, dead, cells false (List.length (clausesOf x gl.l) * 4) (clsL (clausesOf x gl.l))] g)])]) (fun (Q : AEx → St R.σ → Prop) => 1 ≤ 1 ∧ (∀ (hp : List AObj) (g : R.σ), true = true ∧ Does Try.prog R 11 [encIx x, encR gl] hp g (ret (int i64 2)) hp g) ∧ (true = true → Q AEx.ret (St.mk [(4, fz Fz.nil 0 0 fun (x x_2 : Nat) => any), (5, int i64 2)] [cells false 1 (nth [encPacks x])] g)) ∧ (true = false → 1 ≤ 1 ∧ 2 ≤ 2 ∧ (∀ (c : Nat), c < 2 → nth [encPacks x, encR gl] c = over (nth [fz Fz.nil 0 0 fun (x x_2 : Nat) => any, fz Fz.nil 0 0 fun (x x_2 : Nat) => any]) 0 2 (List.brecOn (motive := fun (x : List AV) => Nat → AV) [encPacks x, encR gl] nth._f) c) ∧ 2 ≤ 2 ∧ (true = true ∧ Does Try.prog R 54 [encMkt x gl] [cells false 1 (nth [encPacks x]), cells false 2 (nth [encPacks x, encR gl])] g (ret (ow true 4 (List.length (clausesOf x gl.l)) 4)) [cells false 1 (nth [encPacks x]), cells false 2 (nth [encPacks x, encR gl]), dead, dead, cells false (List.length (clausesOf x gl.l) * 4) (clsL (clausesOf x gl.l))] g) ∧ False)) (fun _ => by kernel_rfl) ⟨(by omega), ⟨(fun _ _ => ⟨rfl, (Go.Avm.Pack.c_Check_f _ _ _ _ _ (by omega) (by omega) (by omega))⟩), ⟨fun _ => ?_, fun h => (nomatch h)⟩⟩⟩
    refine (retQ_le (retQ_drop _ _ rfl trivial ⟨⟨trivial, trivial⟩, trivial⟩ rfl) (Le.tup (fun j hj => match j, hj with | 0, _ => Le.nil_may | 1, _ => (Le.of_eq (by kernel_rfl)) )))
  | true =>
    obtain ⟨hx, hg4, hr⟩ := check_parts hck
    have hgl := check_goals hck
    obtain ⟨hx1, h8⟩ := formed_le hx
    have hl : ∀ c ∈ clausesOf x gl.l, thereC x gl.l c := fun c hc => there_all hc
    have hll := cls_len' hx hg4
    have hcc : ∀ (hp : List AObj) (g : R.σ), Does Try.prog R 54 [encMkt x gl] hp g (.ret (encC ⟨clausesOf x gl.l, .auto⟩)) hp g := fun hp g => c_clausesF R x gl hp g hs hx hg4
    have e : coreR x gl.l = corePick (keptB x gl.l) (clausesOf x gl.l) := by unfold coreR; rw [hck]; rfl
    rw [e]
    unfold corePick
    obtain ⟨cl, hcl⟩ : ∃ cl, clausesOf x gl.l = cl := ⟨_, rfl⟩
    rw [hcl] at hl hll hcc ⊢
    cases hb : keptB x gl.l cl with
    | true =>
      refine spec_of_wp (nt := 41) (rs := [.tmp 4, .tmp 5]) (k0 := 0) (by kernel_rfl) (by kernel_rfl) (by kernel_rfl) rfl ?_
      refine vcQ [] (lkL [(0, [1, 2]), (1, [1, 2, 13]), (2, [4, 5]), (3, [6]), (4, [6, 7]), (5, [6, 7, 21]), (6, [4, 5]), (7, [6, 7, 8])]) (lkL [(1, [(2, ROrc.pcall (int i64 0))]), (3, [(4, ROrc.val (Orc.obj (nth [encPacks x, encR gl])))]), (4, [(1, ROrc.pcall (encC (KL.mk cl Fz.auto)))]), (5, [(2, ROrc.pcall (AV.bool true))])]) (fun (Q : AEx → St R.σ → Prop) => 1 ≤ 1 ∧ (∀ (hp : List AObj) (g : R.σ), true = true ∧ Does Try.prog R 11 [encIx x, encR gl] hp g (ret (int i64 0)) hp g) ∧ (false = true → Q AEx.ret (St.mk [(4, fz Fz.nil 0 0 fun (x x_2 : Nat) => any), (5, int i64 2)] [cells false 1 (nth [encPacks x])] g)) ∧ (false = false → 1 ≤ 1 ∧ 2 ≤ 2 ∧ (∀ (c : Nat), c < 2 → nth [encPacks x, encR gl] c = over (nth [fz Fz.nil 0 0 fun (x x_2 : Nat) => any, fz Fz.nil 0 0 fun (x x_2 : Nat) => any]) 0 2 (List.brecOn (motive := fun (x : List AV) => Nat → AV) [encPacks x, encR gl] nth._f) c) ∧ 2 ≤ 2 ∧ (∀ (hp : List AObj) (g : R.σ), true = true ∧ Does Try.prog R 54 [encMkt x gl] hp g (ret (fz Fz.auto 4 (List.length cl) fun (i : Nat) => clC (List.getD cl i default))) hp g) ∧ 2 ≤ 2 ∧ (∀ (hp : List AObj) (g : R.σ), true = true ∧ Does Try.prog R 59 [encMkt x gl, fz Fz.auto 4 (List.length cl) fun (i : Nat) => clC (List.getD cl i default)] hp g (ret (AV.bool true)) hp g) ∧ (true = true → Q AEx.ret (St.mk [(4, fz Fz.nil 0 0 fun (x x_3 : Nat) => any), (5, int i64 5)] [cells false 1 (nth [encPacks x]), cells false 2 (nth [encPacks x, encR gl])] g)) ∧ (true = false → (-9223372036854775808 ≤ (↑(List.length cl) : Int) - 1 ∧ (↑(List.length cl) : Int) - 1 ≤ 9223372036854775807) ∧ Wp Try.prog R 41 0 Rd.top (bodyOf Try.prog 19) [1, 1, 1, 1, 1, 0, 1, 0] (contQ Try.prog R 41 0 Rd.top (bodyOf Try.prog 19) Q [Kont.blk 0, Kont.seq [1, 1, 1, 1, 1, 1]]) (St.mk [(6, ref 1 0), (7, fz Fz.auto 4 (List.length cl) fun (i : Nat) => clC (List.getD cl i default)), (8, int i64 ((↑(List.length cl) : Int) - 1))] [cells false 1 (nth [encPacks x]), cells false 2 (nth [encPacks x, encR gl])] g)))) (fun _ => by kernel_rfl) ⟨(by omega), ⟨(fun _ _ => ⟨rfl, (Go.Avm.Pack.c_Check_t _ _ _ _ _ (by omega) (by omega) (by omega))⟩), ⟨fun h => (nomatch h), fun _ => ⟨(by omega), ⟨(by omega), ⟨(fun c hc => match c, hc with | 0, _ => (by kernel_rfl) | 1, _ => (by kernel_rfl) ), ⟨(by omega), ⟨(fun _ _ => ⟨rfl, (hcc _ _)⟩), ⟨(by omega), ⟨(fun _ _ => ⟨rfl, (does_bool hb (Go.Avm.Pack.c_kept _ _ _ (KL.mk cl Fz.auto) _ _ (by omega) (by omega) (by omega) (by simp at * <;> omega)))⟩), ⟨fun _ => ?_, fun h => (nomatch h)⟩⟩⟩⟩⟩⟩⟩⟩⟩⟩⟩
      refine (retQ_le (retQ_drop _ _ rfl trivial ⟨⟨trivial, trivial⟩, trivial⟩ rfl) (Le.tup (fun j hj => match j, hj with | 0, _ => Le.nil_may | 1, _ => (Le.of_eq (by kernel_rfl)) )))
    | false =>
      obtain ⟨K, hK⟩ : ∃ K, coreAt (keptB x gl.l) cl.length cl = K := ⟨_, rfl⟩
      rw [if_neg (by decide), hK]
      refine spec_of_wp (nt := 41) (rs := [.tmp 4, .tmp 5]) (k0 := 0) (by kernel_rfl) (by kernel_rfl) (by kernel_rfl) rfl ?_
      refine vcQ [] (lkL [(0, [1, 2]), (1, [1, 2, 13]), (2, [4, 5]), (3, [6]), (4, [6, 7]), (5, [6, 7, 21]), (6, [4, 5]), (7, [6, 7, 8])]) (lkL [(1, [(2, ROrc.pcall (int i64 0))]), (3, [(4, ROrc.val (Orc.obj (nth [encPacks x, encR gl])))]), (4, [(1, ROrc.pcall (encC (KL.mk cl Fz.auto)))]), (5, [(2, ROrc.pcall (AV.bool false))])]) (fun (Q : AEx → St R.σ → Prop) => 1 ≤ 1 ∧ (∀ (hp : List AObj) (g : R.σ), true = true ∧ Does Try.prog R 11 [encIx x, encR gl] hp g (ret (int i64 0)) hp g) ∧ (false = true → Q AEx.ret (St.mk [(4, fz Fz.nil 0 0 fun (x x_2 : Nat) => any), (5, int i64 2)] [cells false 1 (nth [encPacks x])] g)) ∧ (false = false → 1 ≤ 1 ∧ 2 ≤ 2 ∧ (∀ (c : Nat), c < 2 → nth [encPacks x, encR gl] c = over (nth [fz Fz.nil 0 0 fun (x x_2 : Nat) => any, fz Fz.nil 0 0 fun (x x_2 : Nat) => any]) 0 2 (List.brecOn (motive := fun (x : List AV) => Nat → AV) [encPacks x, encR gl] nth._f) c) ∧ 2 ≤ 2 ∧ (∀ (hp : List AObj) (g : R.σ), true = true ∧ Does Try.prog R 54 [encMkt x gl] hp g (ret (fz Fz.auto 4 (List.length cl) fun (i : Nat) => clC (List.getD cl i default))) hp g) ∧ 2 ≤ 2 ∧ (∀ (hp : List AObj) (g : R.σ), true = true ∧ Does Try.prog R 59 [encMkt x gl, fz Fz.auto 4 (List.length cl) fun (i : Nat) => clC (List.getD cl i default)] hp g (ret (AV.bool false)) hp g) ∧ (false = true → Q AEx.ret (St.mk [(4, fz Fz.nil 0 0 fun (x x_3 : Nat) => any), (5, int i64 5)] [cells false 1 (nth [encPacks x]), cells false 2 (nth [encPacks x, encR gl])] g)) ∧ (false = false → (-9223372036854775808 ≤ (↑(List.length cl) : Int) - 1 ∧ (↑(List.length cl) : Int) - 1 ≤ 9223372036854775807) ∧ Wp Try.prog R 41 0 Rd.top (bodyOf Try.prog 19) [1, 1, 1, 1, 1, 0, 1, 0] (contQ Try.prog R 41 0 Rd.top (bodyOf Try.prog 19) Q [Kont.blk 0, Kont.seq [1, 1, 1, 1, 1, 1]]) (St.mk [(6, ref 1 0), (7, fz Fz.auto 4 (List.length cl) fun (i : Nat) => clC (List.getD cl i default)), (8, int i64 ((↑(List.length cl) : Int) - 1))] [cells false 1 (nth [encPacks x]), cells false 2 (nth [encPacks x, encR gl])] g)))) (fun _ => by kernel_rfl) ⟨(by omega), ⟨(fun _ _ => ⟨rfl, (Go.Avm.Pack.c_Check_t _ _ _ _ _ (by omega) (by omega) (by omega))⟩), ⟨fun h => (nomatch h), fun _ => ⟨(by omega), ⟨(by omega), ⟨(fun c hc => match c, hc with | 0, _ => (by kernel_rfl) | 1, _ => (by kernel_rfl) ), ⟨(by omega), ⟨(fun _ _ => ⟨rfl, (hcc _ _)⟩), ⟨(by omega), ⟨(fun _ _ => ⟨rfl, (does_bool hb (Go.Avm.Pack.c_kept _ _ _ (KL.mk cl Fz.auto) _ _ (by omega) (by omega) (by omega) (by simp at * <;> omega)))⟩), ⟨fun h => (nomatch h), fun _ => ⟨(by omega), ?_⟩⟩⟩⟩⟩⟩⟩⟩⟩⟩⟩⟩
      refine (wp_loop (by kernel_rfl) (fun (y : Nat × List Clause) => ⟨[(6, ref 1 0), (7, encC ⟨y.2, .may⟩), (8, .int .i64 ((y.1 : Int) - 1))], [cells false 1 (nth [encPacks x]), cells false 2 (nth [encPacks x, encR gl])], g⟩) (fun (y : Nat × List Clause) => (y.1 ≤ y.2.length ∧ y.2.length < 10000 ∧ (∀ c ∈ y.2, thereC x gl.l c) ∧ coreAt (keptB x gl.l) y.1 y.2 = K)) (fun (y : Nat × List Clause) => (y.1)) ((cl.length, cl) : Nat × List Clause) (to_fr ⟨(Le.refl _), ⟨(leK_ok rfl (fun _ _ _ _ => rfl)), ⟨(Le.refl _), trivial⟩⟩⟩ rfl rfl) ?_ (fun y hi => ?_))
      · exact ⟨Nat.le_refl _, hll, hl, hK⟩
      · obtain ⟨h1, h2, h3, h4⟩ := hi
        have hz : (y.1 : Int) - 1 ≥ 0 → ((y.1 : Int) - 1).toNat = y.1 - 1 := fun h => by omega
        have hK1 : (y.1 : Int) - 1 ≥ 0 → coreAt (keptB x gl.l) (y.1 - 1) (if keptB x gl.l (y.2.eraseIdx (y.1 - 1)) then y.2 else y.2.eraseIdx (y.1 - 1)) = K := fun h => by
          rw [← h4]
          obtain ⟨i, hi⟩ : ∃ i, y.1 = i + 1 := ⟨y.1 - 1, by omega⟩
          rw [hi]; rfl
        have hle : (y.2.eraseIdx ((y.1 : Int) - 1).toNat).length ≤ y.2.length := (List.eraseIdx_sublist _ _).length_le
        have hli : (y.1 : Int) - 1 ≥ 0 → (y.2.eraseIdx ((y.1 : Int) - 1).toNat).length = y.2.length - 1 := fun h => by rw [List.length_eraseIdx, if_pos (by omega)]
        have h3' : ∀ c ∈ y.2.eraseIdx ((y.1 : Int) - 1).toNat, thereC x gl.l c := fun c hc => h3 c ((List.eraseIdx_sublist _ _).subset hc)
        refine vcQ [] (lkL [(8, [6, 7, 8, 26]), (10, [6, 7, 8, 9]), (11, [6, 7, 8, 9, 38]), (12, [6, 7, 8]), (9, [6, 7, 8])]) (lkL [(10, [(1, ROrc.call (sl 3 0 (List.length y.2) (List.length y.2) false 4) [cells false 1 (nth [encPacks x]), cells false 2 (nth [encPacks x, encR gl]), dead, cells false (List.length (KL.mk y.2 Fz.may).l * 4) (clsL (KL.mk y.2 Fz.may).l)] g), (5, ROrc.call (fz Fz.may 4 (List.length (List.eraseIdx y.2 (Int.toNat ((↑y.fst : Int) - 1)))) fun (i : Nat) => clC (List.getD (List.eraseIdx y.2 (Int.toNat ((↑y.fst : Int) - 1))) i default)) [cells false 1 (nth [encPacks x]), cells false 2 (nth [encPacks x, encR gl]), dead, dead] g)]), (11, [(2, ROrc.pcall (AV.bool (keptB x gl.l (KL.mk (List.eraseIdx y.2 (Int.toNat ((↑y.fst : Int) - 1))) Fz.may).l)))])]) (fun (Q : AEx → St R.σ → Prop) => (decide ((↑y.fst : Int) - 1 ≥ 0) = true → (true = true ∧ Does Try.prog R 61 [fz Fz.may 4 (List.length y.snd) fun (i : Nat) => clC (List.getD y.snd i default)] [cells false 1 (nth [encPacks x]), cells false 2 (nth [encPacks x, encR gl])] g (ret (sl 3 0 (List.length y.2) (List.length y.2) false 4)) [cells false 1 (nth [encPacks x]), cells false 2 (nth [encPacks x, encR gl]), dead, cells false (List.length y.2 * 4) (clsL y.2)] g) ∧ (-9223372036854775808 ≤ (↑y.fst : Int) - 1 + 1 ∧ (↑y.fst : Int) - 1 + 1 ≤ 9223372036854775807) ∧ (true = true ∧ Does Try.prog R 60 [sl 3 0 (List.length y.2) (List.length y.2) false 4, int i64 ((↑y.fst : Int) - 1), int i64 ((↑y.fst : Int) - 1 + 1)] [cells false 1 (nth [encPacks x]), cells false 2 (nth [encPacks x, encR gl]), dead, cells false (List.length y.2 * 4) (clsL y.2)] g (ret (fz Fz.may 4 (List.length (List.eraseIdx y.2 (Int.toNat ((↑y.fst : Int) - 1)))) fun (i : Nat) => clC (List.getD (List.eraseIdx y.2 (Int.toNat ((↑y.fst : Int) - 1))) i default))) [cells false 1 (nth [encPacks x]), cells false 2 (nth [encPacks x, encR gl]), dead, dead] g) ∧ 2 ≤ 2 ∧ (∀ (hp : List AObj) (g : R.σ), true = true ∧ Does Try.prog R 59 [encMkt x gl, fz Fz.may 4 (List.length (List.eraseIdx y.2 (Int.toNat ((↑y.fst : Int) - 1)))) fun (i : Nat) => clC (List.getD (List.eraseIdx y.2 (Int.toNat ((↑y.fst : Int) - 1))) i default)] hp g (ret (AV.bool (keptB x gl.l (List.eraseIdx y.2 (Int.toNat ((↑y.fst : Int) - 1)))))) hp g) ∧ ((!keptB x gl.l (List.eraseIdx y.2 (Int.toNat ((↑y.fst : Int) - 1)))) = true → (-9223372036854775808 ≤ (↑y.fst : Int) - 1 - 1 ∧ (↑y.fst : Int) - 1 - 1 ≤ 9223372036854775807) ∧ Q AEx.normal (St.mk [(6, ref 1 0), (7, fz Fz.may 4 (List.length (List.eraseIdx y.2 (Int.toNat ((↑y.fst : Int) - 1)))) fun (i : Nat) => clC (List.getD (List.eraseIdx y.2 (Int.toNat ((↑y.fst : Int) - 1))) i default)), (8, int i64 ((↑y.fst : Int) - 1 - 1))] [cells false 1 (nth [encPacks x]), cells false 2 (nth [encPacks x, encR gl]), dead, dead] g)) ∧ ((!keptB x gl.l (List.eraseIdx y.2 (Int.toNat ((↑y.fst : Int) - 1)))) = false → (-9223372036854775808 ≤ (↑y.fst : Int) - 1 - 1 ∧ (↑y.fst : Int) - 1 - 1 ≤ 9223372036854775807) ∧ Q AEx.normal (St.mk [(6, ref 1 0), (7, fz Fz.may 4 (List.length y.snd) fun (i : Nat) => clC (List.getD y.snd i default)), (8, int i64 ((↑y.fst : Int) - 1 - 1))] [cells false 1 (nth [encPacks x]), cells false 2 (nth [encPacks x, encR gl]), dead, dead] g))) ∧ (decide ((↑y.fst : Int) - 1 ≥ 0) = false → Q (AEx.exit 0) (St.mk [(6, ref 1 0), (7, fz Fz.may 4 (List.length y.snd) fun (i : Nat) => clC (List.getD y.snd i default)), (8, int i64 ((↑y.fst : Int) - 1)), (26, AV.bool (decide ((↑y.fst : Int) - 1 ≥ 0)))] [cells false 1 (nth [encPacks x]), cells false 2 (nth [encPacks x, encR gl])] g))) (fun _ => by kernel_rfl) ⟨fun c1 => have c1 : (↑y.fst : Int) - 1 ≥ 0 := (of_decide_eq_true c1); ⟨⟨rfl, (does_sub' [] 2 (fun R g => Go.Avm.Pack.c_CloneC R (KL.mk y.2 Fz.may) g ?_ (by omega)) rfl rfl rfl (by exact trivial) (by exact trivial) (by exact ⟨le_ren (by exact trivial), trivial⟩) (by exact (Le.refl _)) (by exact ⟨LeO.rflc, ⟨LeO.rflc, ⟨trivial, ⟨⟨rfl, Nat.le_refl _, fun j hj => le_unren (by apply Go.Avm.Pack.below_clsL)⟩, trivial⟩⟩⟩⟩))⟩, ⟨(by omega), ⟨⟨rfl, (does_sub' [3] 4 (fun R g => Go.Avm.Pack.c_Delete R (y.2) ((↑y.fst : Int) - 1) g (by simp at * <;> omega) ?_ (by omega)) rfl rfl rfl (by exact ⟨⟨rfl, Nat.le_refl _, fun j hj => le_ren (by apply Go.Avm.Pack.below_clsL)⟩, trivial⟩) (by exact ⟨by omega, trivial⟩) (by exact ⟨(Le.refl _), ⟨le_ren (by exact trivial), ⟨le_ren (by exact trivial), trivial⟩⟩⟩) (by exact le_unren (by exact trivial)) (by exact ⟨LeO.rflc, ⟨LeO.rflc, ⟨trivial, ⟨trivial, trivial⟩⟩⟩⟩))⟩, ⟨(by omega), ⟨(fun _ _ => ⟨rfl, (Go.Avm.Pack.c_kept _ _ _ (KL.mk (List.eraseIdx y.2 (Int.toNat ((↑y.fst : Int) - 1))) Fz.may) _ _ (by omega) (by omega) (by omega) ?_)⟩), ⟨fun c2 => have c2 : keptB x gl.l (List.eraseIdx y.2 (Int.toNat ((↑y.fst : Int) - 1))) = false := ((Bool.not_eq_true' _).mp c2); ⟨(by omega), ?_⟩, fun c2 => have c2 : keptB x gl.l (List.eraseIdx y.2 (Int.toNat ((↑y.fst : Int) - 1))) = true := ((Bool.not_eq_false' _).mp c2); ⟨(by omega), ?_⟩⟩⟩⟩⟩⟩⟩, fun c1 => have c1 : ¬(↑y.fst : Int) - 1 ≥ 0 := (of_decide_eq_false c1); ?_⟩
        · show 0 < y.2.length
          omega
        · omega
        · exact Nat.lt_of_le_of_lt hle (by omega)
        · refine (next_round (y.1 - 1, y.2.eraseIdx ((y.1 : Int) - 1).toNat) (to_sel [0, 1] 4 rfl rfl rfl rfl rfl ⟨(Le.refl _), ⟨(Le.refl _), ⟨Le.of_eq ?_, trivial⟩⟩⟩ ⟨⟨rfl, Nat.le_refl _, fun j hj => match j, hj with | 0, _ => (Le.refl _) ⟩, ⟨⟨rfl, Nat.le_refl _, fun j hj => match j, hj with | 0, _ => (Le.refl _) | 1, _ => (Le.refl _) ⟩, trivial⟩⟩) ?_ ?_)
          · show AV.int .i64 _ = AV.int .i64 (((y.1 - 1 : Nat) : Int) - 1)
            congr 1
            omega
          · have hK1 := hK1 c1
            rw [hz c1] at c2 ⊢
            rw [c2] at hK1
            refine ⟨?_, Nat.lt_of_le_of_lt ?_ h2, ?_, hK1⟩
            · show y.1 - 1 ≤ (y.2.eraseIdx (y.1 - 1)).length
              have := hli c1
              rw [hz c1] at this
              omega
            · rw [hz c1] at hle; exact hle
            · rw [hz c1] at h3'; exact h3'
          · show y.1 - 1 < y.1
            omega
        · refine (next_round (y.1 - 1, y.2) (to_sel [0, 1] 4 rfl rfl rfl rfl rfl ⟨(Le.refl _), ⟨(Le.refl _), ⟨Le.of_eq ?_, trivial⟩⟩⟩ ⟨⟨rfl, Nat.le_refl _, fun j hj => match j, hj with | 0, _ => (Le.refl _) ⟩, ⟨⟨rfl, Nat.le_refl _, fun j hj => match j, hj with | 0, _ => (Le.refl _) | 1, _ => (Le.refl _) ⟩, trivial⟩⟩) ?_ ?_)
          · show AV.int .i64 _ = AV.int .i64 (((y.1 - 1 : Nat) : Int) - 1)
            congr 1
            omega
          · have hK1 := hK1 c1
            rw [hz c1] at c2
            rw [c2] at hK1
            exact ⟨by show y.1 - 1 ≤ y.2.length; omega, h2, h3, hK1⟩
          · show y.1 - 1 < y.1
            omega
        · have e0 : y.1 = 0 := by omega
          rw [e0] at h4
          have h4 : y.2 = K := h4
          rw [← h4]
          refine ⟨_, To.refl _, vcQ [] (lkL [(13, [4, 5])]) (fun _ => []) (fun (Q : AEx → St R.σ → Prop) => Q AEx.ret (St.mk [(4, fz Fz.may 4 (List.length y.snd) fun (i : Nat) => clC (List.getD y.snd i default)), (5, int i64 0)] [cells false 1 (nth [encPacks x]), cells false 2 (nth [encPacks x, encR gl])] g)) (fun _ => by kernel_rfl) (?_)⟩
          refine (retQ_le (retQ_drop _ _ rfl trivial ⟨⟨trivial, trivial⟩, trivial⟩ rfl) (Le.of_eq (by kernel_rfl)))
end Go.Avm.Pack
namespace Go.Avm.Pack
open Go Go.Avm Go.Proofs
open Go.IntKind (i64 u64)
open Go.Avm.AV (int bool any fz fp sl ow ref fn ifc val agg tup)
open Go.Avm.AObj (cells dead)
open Go.Avm.Oc (ret)
set_option maxRecDepth 4000
def rkeptB (x : Ix) (gl : List Rng) (l : List Clause) : Bool := !(Nat.beq (searchR x gl l false []).1.length 0)
end Go.Avm.Pack
namespace Go.Avm.Pack
open Go Go.Avm Go.Proofs
open Go.IntKind (i64 u64)
open Go.Avm.AV (int bool any fz fp sl ow ref fn ifc val agg tup)
open Go.Avm.AObj (cells dead)
open Go.Avm.Oc (ret)
set_option maxRecDepth 4000
def kv (p : Nat → Int) : Value := .agg #[.int .i64 (p 0), .int .i64 (p 1), .int .i64 (p 2), .int .i64 (p 3), .int .i64 (p 4), .int .i64 (p 5), .int .i64 (p 6), .int .i64 (p 7)]
theorem kv_inj {p q : Nat → Int} (h : kv p = kv q) : ∀ j, j < 8 → p j = q j := by
  unfold kv at h
  simp only [Value.agg.injEq, Array.mk.injEq, List.cons.injEq, Value.int.injEq, true_and, and_true] at h
  intro j hj
  match j, hj with
  | 0, _ => exact h.1
  | 1, _ => exact h.2.1
  | 2, _ => exact h.2.2.1
  | 3, _ => exact h.2.2.2.1
  | 4, _ => exact h.2.2.2.2.1
  | 5, _ => exact h.2.2.2.2.2.1
  | 6, _ => exact h.2.2.2.2.2.2.1
  | 7, _ => exact h.2.2.2.2.2.2.2
theorem kv_congr {p q : Nat → Int} (h : ∀ j, j < 8 → p j = q j) : kv p = kv q := by
  unfold kv
  rw [h 0 (by omega), h 1 (by omega), h 2 (by omega), h 3 (by omega), h 4 (by omega), h 5 (by omega), h 6 (by omega), h 7 (by omega)]
def fitP (p : Nat → Int) : Prop := ∀ j, j < 8 → -100 ≤ p j ∧ p j ≤ 100
theorem plan_law : WideMaps.KeyLaw Try.prog 79 := deep_law_laid (by kernel_rfl) (m := 2) (by omega) (of_decide_eq_true (by kernel_rfl)) (by kernel_rfl) (by kernel_rfl)
theorem plan_keyed : Maps.Keyed Try.prog 79 := Maps.Keyed.of_law plan_law
theorem wf_fit {n : Int} (h : -100 ≤ n ∧ n ≤ 100) : (Lit.int .i64 n).wf = true := by
  show (decide (IntKind.i64.min ≤ n) && decide (n ≤ IntKind.i64.max)) = true
  rw [Bool.and_eq_true]
  exact ⟨decide_eq_true (Int.le_trans (by decide) h.1), decide_eq_true (Int.le_trans h.2 (by decide))⟩
theorem u_plan : Try.prog.underlying 79 = some (.array 8 3) := by kernel_rfl
theorem u_int : Try.prog.underlying 3 = some (.int .i64) := by kernel_rfl
theorem c_plan : Try.prog.cellsOf 79 = 8 := by kernel_rfl
theorem c_int : Try.prog.cellsOf 3 = 1 := by kernel_rfl
theorem k_plan : Try.prog.keyType 79 = true := by kernel_rfl
theorem sz_types : ∃ n, Try.prog.types.size + 1 = n + 2 := ⟨Try.prog.types.size - 1, by have : 0 < Try.prog.types.size := of_decide_eq_true (by kernel_rfl); omega⟩
theorem key_plan {p : Nat → Int} (h : fitP p) : ∃ l, keyOf Try.prog 79 (kv p) = some l := by
  obtain ⟨n, hn⟩ := sz_types
  have w := fun j hj => wf_fit (h j hj)
  have one : ∀ a : Int, (Lit.int .i64 a).wf = true → Try.prog.keyLits (n + 1) 3 [.int .i64 a] = some [.int .i64 a] := fun a ha => by
    simp only [Program.keyLits, u_int]
    rw [if_pos ⟨trivial, ha⟩]
  unfold keyOf
  rw [u_plan, k_plan, hn]
  have hf : Value.formed Try.prog 79 (kv p) = true := by
    simp [kv, Value.formed, u_plan, c_plan]
  rw [hf]
  have hk : Try.prog.keyLits (n + 2) 79 (kv p).cells.toList = some [.int .i64 (p 0), .int .i64 (p 1), .int .i64 (p 2), .int .i64 (p 3), .int .i64 (p 4), .int .i64 (p 5), .int .i64 (p 6), .int .i64 (p 7)] := by
    show Try.prog.keyLits ((n + 1) + 1) _ _ = _
    unfold Program.keyLits
    rw [u_plan]
    show (if _ then _ else _) = _
    rw [if_pos (by rw [c_plan]; rfl), c_int]
    rw [show List.range 8 = [0, 1, 2, 3, 4, 5, 6, 7] from rfl]
    simp [List.mapM_cons, kv, Value.cells, one _ (w 0 (by omega)), one _ (w 1 (by omega)), one _ (w 2 (by omega)), one _ (w 3 (by omega)), one _ (w 4 (by omega)), one _ (w 5 (by omega)), one _ (w 6 (by omega)), one _ (w 7 (by omega))]
  rw [hk]
  exact ⟨_, rfl⟩
end Go.Avm.Pack
namespace Go.Avm.Pack
open Go Go.Avm Go.Proofs
open Go.IntKind (i64 u64)
open Go.Avm.AV (int bool any fz fp sl ow ref fn ifc val agg tup)
open Go.Avm.AObj (cells dead)
open Go.Avm.Oc (ret)
set_option maxRecDepth 4000
def mapE (es : List ((Nat → Int) × Int)) : List (Value × AV) := es.map fun e => (kv e.1, .int .i64 e.2)
def eq8 (a b : Nat → Int) : Bool := (List.range 8).all fun j => a j == b j
theorem eq8_iff {a b : Nat → Int} : eq8 a b = true ↔ kv a = kv b := by
  unfold eq8
  rw [List.all_eq_true]
  constructor
  · intro h
    exact kv_congr (fun j hj => by simpa using h j (by simpa using hj))
  · intro h j hj
    have := kv_inj h j (by simpa using hj)
    simpa using this
def fillP (p old : Nat → Int) (many : Nat) : Nat → Int := fun j => if many ≤ j then old j else p j
def fillU (p old : Nat → Int) (many i : Nat) : Nat → Int := fun j => if many ≤ j ∧ j < i then old j else p j
def farN (p old : Nat → Int) (many : Nat) : Nat := cntN 8 (fun j => fillP p old many j != old j)
def hitB (es : List ((Nat → Int) × Int)) (q : Nat → Int) : Bool := es.any fun e => eq8 e.1 q
def putE (es : List ((Nat → Int) × Int)) (p old : Nat → Int) (many : Nat) : List ((Nat → Int) × Int) := if hitB es (fillP p old many) then es else es ++ [(fillP p old many, (farN p old many : Int))]
def okE (es : List ((Nat → Int) × Int)) (old : Nat → Int) : Prop := ∀ e ∈ es, fitP e.1 ∧ e.2 = (cntN 8 (fun j => e.1 j != old j) : Int)
theorem fit_fill {p old : Nat → Int} {many : Nat} (hp : ∀ j, j < many → -100 ≤ p j ∧ p j ≤ 100) (ho : fitP old) : fitP (fillP p old many) := fun j hj => by
  unfold fillP
  by_cases h : many ≤ j
  · rw [if_pos h]; exact ho j hj
  · rw [if_neg h]; exact hp j (by omega)
theorem okE_put {es : List ((Nat → Int) × Int)} {p old : Nat → Int} {many : Nat} (h : okE es old) (hp : ∀ j, j < many → -100 ≤ p j ∧ p j ≤ 100) (ho : fitP old) : okE (putE es p old many) old := by
  unfold putE
  split
  · exact h
  · intro e he
    rcases List.mem_append.1 he with he | he
    · exact h e he
    · simp at he
      subst he
      exact ⟨fit_fill hp ho, rfl⟩
theorem den_plan {FM : Mem} {ρ : Plc} {q : Nat → Int} {v : Value} (h : Den FM ρ (.agg 8 (fun a => .int .i64 (q a))) v) : v = kv q := by
  obtain ⟨xs, rfl, hl, hx⟩ := h
  have h8 : ∀ j, j < 8 → xs.getD j undef = .int .i64 (q j) := fun j hj => (hx j hj).2
  unfold kv
  congr 1
  refine Array.ext (by rw [hl]; rfl) (fun j h1 h2 => ?_)
  have e : xs[j] = xs.getD j undef := by rw [Array.getD_eq_getD_getElem?, Array.getElem?_eq_getElem h1]; rfl
  rw [e, h8 j (by omega)]
  have h2 : j < 8 := h2
  match j, h2 with
  | 0, _ => rfl
  | 1, _ => rfl
  | 2, _ => rfl
  | 3, _ => rfl
  | 4, _ => rfl
  | 5, _ => rfl
  | 6, _ => rfl
  | 7, _ => rfl
theorem mapE_mem {es : List ((Nat → Int) × Int)} {e : Value × AV} (h : e ∈ mapE es) : ∃ y ∈ es, e = (kv y.1, .int .i64 y.2) := by
  unfold mapE at h
  obtain ⟨y, hy, rfl⟩ := List.mem_map.1 h
  exact ⟨y, hy, rfl⟩
theorem mapE_keys {es : List ((Nat → Int) × Int)} {old : Nat → Int} (h : okE es old) : ∀ e ∈ mapE es, ∃ l, keyOf Try.prog 79 e.1 = some l := fun e he => by
  obtain ⟨y, hy, rfl⟩ := mapE_mem he
  exact key_plan (h y hy).1
theorem cnt_congr {n : Nat} {p q : Nat → Bool} (h : ∀ j, j < n → p j = q j) : cntN n p = cntN n q := by
  induction n with
  | zero => rfl
  | succ n ih => rw [cntN_succ, cntN_succ, ih (fun j hj => h j (by omega)), h n (by omega)]
def hpM (old : Nat → Int) (es : List ((Nat → Int) × Int)) : List AObj := [.cells false 8 (fun a => .int .i64 (old a)), .cells false 1 (nth [.mp 2]), .map (mapE es)]
theorem far_hit (R : Res) (p old : Nat → Int) (many : Nat) (es : List ((Nat → Int) × Int)) (g : R.σ) (hm : many ≤ 8) (hp : ∀ j, j < many → -100 ≤ p j ∧ p j ≤ 100) (ho : fitP old) (he : okE es old) (hh : hitB es (fillP p old many) = true) :
    Does Try.prog R 63 [encPlan p, .int .i64 many, .ref 0 0, .ref 1 0] (hpM old es) g (.ret (.int .i64 (farN p old many))) (hpM old es) g := by
  refine spec_of_wp (nt := 46) (rs := [.tmp 6]) (k0 := 3) (by kernel_rfl) (by kernel_rfl) (by kernel_rfl) rfl ?_
  refine vcQ [] (lkL [(0, [1, 2, 3, 4]), (1, [2, 3, 4, 7])]) (fun _ => []) (fun (Q : AEx → St R.σ → Prop) => Wp Try.prog R 46 3 Rd.top (bodyOf Try.prog 63) [1, 0, 1, 0] (contQ Try.prog R 46 3 Rd.top (bodyOf Try.prog 63) Q [Kont.blk 0, Kont.seq [1, 1]]) (St.mk [(2, ref 0 0), (3, ref 1 0), (4, ref 3 0), (7, int i64 (↑many : Int))] [cells false 8 fun (a : Nat) => int i64 (old a), cells false 1 (nth [AV.mp 2]), AObj.map (mapE es), cells false 8 fun (a : Nat) => int i64 (p a)] g)) (fun _ => by kernel_rfl) (?_)
  refine (wp_loop (by kernel_rfl) (fun (i : Nat) => ⟨[(2, ref 0 0), (3, ref 1 0), (4, ref 3 0), (7, .int .i64 i)], [.cells false 8 (fun a => .int .i64 (old a)), .cells false 1 (nth [.mp 2]), .map (mapE es), .cells false 8 (fun a => .int .i64 (fillU p old many i a))], g⟩) (fun (i : Nat) => (many ≤ i ∧ i ≤ 8)) (fun (i : Nat) => (8 - i)) many (to_le ⟨(Le.refl _), ⟨(Le.refl _), ⟨(Le.refl _), ⟨(Le.refl _), trivial⟩⟩⟩⟩ ⟨LeO.rflc, ⟨LeO.rflc, ⟨rfl, ⟨(LeO.cells (fun j hj => ?_)), trivial⟩⟩⟩⟩ rfl) ?_ (fun i hi => ?_))
  · show AV.int .i64 (p j) = AV.int .i64 (if _ then _ else _)
    rw [if_neg (by omega)]
  · omega
  · refine vcQ [[1, 1]] (lkL [(2, [2, 3, 4, 7, 13]), (4, [2, 3, 4, 7]), (3, [2, 3, 4, 7])]) (fun _ => []) (fun (Q : AEx → St R.σ → Prop) => (decide ((↑i : Int) < 8) = true → (0 ≤ (↑i : Int) ∧ (↑i : Int) < (↑8 : Int)) ∧ i + 1 ≤ 8 ∧ (0 ≤ (↑i : Int) ∧ (↑i : Int) < (↑8 : Int)) ∧ i + 1 ≤ 8 ∧ (-9223372036854775808 ≤ (↑i : Int) + 1 ∧ (↑i : Int) + 1 ≤ 9223372036854775807) ∧ Q AEx.normal (St.mk [(2, ref 0 0), (3, ref 1 0), (4, ref 3 0), (7, int i64 ((↑i : Int) + 1))] [cells false 8 fun (a : Nat) => int i64 (old a), cells false 1 (nth [AV.mp 2]), AObj.map (mapE es), cells false 8 (over (fun (a : Nat) => int i64 (fillU p old many i a)) i 1 fun (x : Nat) => int i64 (old i))] g)) ∧ (decide ((↑i : Int) < 8) = false → Q (AEx.exit 0) (St.mk [(2, ref 0 0), (3, ref 1 0), (4, ref 3 0), (7, int i64 (↑i : Int)), (13, AV.bool (decide ((↑i : Int) < 8)))] [cells false 8 fun (a : Nat) => int i64 (old a), cells false 1 (nth [AV.mp 2]), AObj.map (mapE es), cells false 8 fun (a : Nat) => int i64 (fillU p old many i a)] g))) (fun _ => by kernel_rfl) ⟨fun c1 => have c1 : (↑i : Int) < 8 := (of_decide_eq_true c1); ⟨(by omega), ⟨(by omega), ⟨(by omega), ⟨(by omega), ⟨(by omega), ?_⟩⟩⟩⟩⟩, fun c1 => have c1 : ¬(↑i : Int) < 8 := (of_decide_eq_false c1); ?_⟩
    · refine (next_round (i + 1) (to_le ⟨(Le.refl _), ⟨(Le.refl _), ⟨(Le.refl _), ⟨(Le.of_eq (by kernel_rfl)), trivial⟩⟩⟩⟩ ⟨LeO.rflc, ⟨LeO.rflc, ⟨rfl, ⟨(LeO.cells (fun j hj => ?_)), trivial⟩⟩⟩⟩ rfl) ?_ ?_)
      · rw [over_eq]
        by_cases h : j = i
        · subst h
          rw [if_pos (by omega)]
          show AV.int .i64 _ = AV.int .i64 (if _ then _ else _)
          rw [if_pos (by omega)]
        · rw [if_neg (by omega)]
          show AV.int .i64 (if _ then _ else _) = AV.int .i64 (if _ then _ else _)
          by_cases h2 : many ≤ j ∧ j < i
          · rw [if_pos h2, if_pos (by omega)]
          · rw [if_neg h2, if_neg (by omega)]
      · omega
      · omega
    · have e8 : i = 8 := by omega
      refine ⟨_, To.refl _, (wp_to (s' := ⟨[(2, ref 0 0), (3, ref 1 0), (4, ref 3 0), (7, int i64 (↑i : Int)), (13, AV.bool (decide ((↑i : Int) < 8)))], [.cells false 8 (fun a => .int .i64 (old a)), .cells false 1 (nth [.mp 2]), .map (mapE es), .cells false 8 (fun a => .int .i64 (fillP p old many a))], g⟩) (to_le ⟨(Le.refl _), ⟨(Le.refl _), ⟨(Le.refl _), ⟨(Le.refl _), ⟨(Le.refl _), trivial⟩⟩⟩⟩⟩ ⟨LeO.rflc, ⟨LeO.rflc, ⟨rfl, ⟨(LeO.cells (fun j hj => ?_)), trivial⟩⟩⟩⟩ rfl) ?_)⟩
      · subst e8
        show AV.int .i64 (if _ then _ else _) = AV.int .i64 (if _ then _ else _)
        by_cases h2 : many ≤ j
        · rw [if_pos h2, if_pos (by omega)]
        · rw [if_neg h2, if_neg (by omega)]
      · refine vcQ [] (lkL [(5, [2, 3, 4, 8, 9]), (6, [2, 3, 4, 8, 27]), (7, [6]), (8, [2, 3, 4, 8, 29])]) (lkL [(5, [(2, ROrc.own (tup 2 (nth [int i64 (↑(farN p old many) : Int), AV.bool true])) [cells false 8 fun (a : Nat) => int i64 (old a), cells false 1 (nth [AV.mp 2]), AObj.map (mapE es), cells false 8 fun (a : Nat) => int i64 (fillP p old many a)] g)])]) (fun (Q : AEx → St R.σ → Prop) => 1 ≤ 1 ∧ 8 ≤ 8 ∧ OpOk Try.prog R (Oper.mk (some 24) (Op.lookup 101 (Operand.tmp 22) (Operand.tmp 23) true) 102 "plan.go:153" #[Edge.mk 0 Ground.data, Edge.mk 1 Ground.data] none) (evO [Row.mk (some 23) none (encPlan (fillP p old many)) false (some []) [3], Row.mk (some 22) none (AV.mp 2) false (some []) [1]] [(2, ref 0 0), (3, ref 1 0), (4, ref 3 0), (7, int i64 (↑i : Int)), (13, AV.bool (decide ((↑i : Int) < 8)))] []) [cells false 8 fun (a : Nat) => int i64 (old a), cells false 1 (nth [AV.mp 2]), AObj.map (mapE es), cells false 8 fun (a : Nat) => int i64 (fillP p old many a)] g (tup 2 (nth [int i64 (↑(farN p old many) : Int), AV.bool true])) [cells false 8 fun (a : Nat) => int i64 (old a), cells false 1 (nth [AV.mp 2]), AObj.map (mapE es), cells false 8 fun (a : Nat) => int i64 (fillP p old many a)] g ∧ (true = true → Q AEx.ret (St.mk [(6, int i64 (↑(farN p old many) : Int))] [cells false 8 fun (a : Nat) => int i64 (old a), cells false 1 (nth [AV.mp 2]), AObj.map (mapE es), cells false 8 fun (a : Nat) => int i64 (fillP p old many a)] g)) ∧ (true = false → Wp Try.prog R 46 3 Rd.top (bodyOf Try.prog 63) [1, 1, 1, 1, 0, 1, 0] (contQ Try.prog R 46 3 Rd.top (bodyOf Try.prog 63) Q [Kont.blk 2, Kont.seq [1, 1, 1, 1, 1]]) (St.mk [(2, ref 0 0), (3, ref 1 0), (4, ref 3 0), (8, int i64 (↑(farN p old many) : Int)), (29, int i64 0)] [cells false 8 fun (a : Nat) => int i64 (old a), cells false 1 (nth [AV.mp 2]), AObj.map (mapE es), cells false 8 fun (a : Nat) => int i64 (fillP p old many a)] g))) (fun _ => by kernel_rfl) ⟨(by omega), ⟨(by omega), ⟨?_, ⟨fun _ => ?_, fun h => (nomatch h)⟩⟩⟩⟩
        · refine opOk_look_hit (t := 101) (kt := 79) (vt := 3) (m := .tmp 22) (x := .tmp 23) (ob := 2) (es := mapE es) (kv := kv (fillP p old many)) (d := .int .i64 (farN p old many)) rfl (by kernel_rfl) plan_keyed rfl rfl (fun FM ρ v h => den_plan h) (key_plan (fit_fill hp ho)) (mapE_keys he) ?_ ?_
          · obtain ⟨e, h1, h2⟩ := List.any_eq_true.1 hh
            exact ⟨(kv e.1, .int .i64 e.2), List.mem_map.2 ⟨e, h1, rfl⟩, eq8_iff.1 h2⟩
          · intro e h1 h2
            obtain ⟨y, hy, rfl⟩ := mapE_mem h1
            show AV.int .i64 _ = AV.int .i64 _
            rw [(he y hy).2]
            unfold farN
            rw [cnt_congr (fun j hj => by rw [kv_inj h2 j hj])]
        · refine (retQ_le (retQ_take' 3 _ _ rfl trivial (by omega) trivial ⟨(fun j hj => match j, hj with | 0, _ => trivial | 1, _ => trivial | 2, _ => trivial | 3, _ => trivial | 4, _ => trivial | 5, _ => trivial | 6, _ => trivial | 7, _ => trivial ), ⟨(fun j hj => match j, hj with | 0, _ => (show 3 ≤ 3 by omega) ), trivial⟩⟩ (by kernel_rfl) rfl rfl) (Le.refl _))
theorem tyInt : ∃ ti, tyOf Try.prog 3 = some ti ∧ mkv ti.agg ti.size ti.zero = .int .i64 0 := by
  have h : (match tyOf Try.prog 3 with | some ti => mkv ti.agg ti.size ti.zero | none => .any) = .int .i64 0 := by kernel_rfl
  cases hx : tyOf Try.prog 3 with
  | none => rw [hx] at h; cases h
  | some ti => rw [hx] at h; exact ⟨ti, rfl, h⟩
theorem far_miss (R : Res) (p old : Nat → Int) (many : Nat) (es : List ((Nat → Int) × Int)) (g : R.σ) (hm : many ≤ 8) (hp : ∀ j, j < many → -100 ≤ p j ∧ p j ≤ 100) (ho : fitP old) (he : okE es old) (hh : hitB es (fillP p old many) = false) :
    Does Try.prog R 63 [encPlan p, .int .i64 many, .ref 0 0, .ref 1 0] (hpM old es) g (.ret (.int .i64 (farN p old many))) [.cells false 8 (fun a => .int .i64 (old a)), .cells false 1 (nth [.mp 2]), .map (mapE es ++ [(kv (fillP p old many), .int .i64 (farN p old many))])] g := by
  refine spec_of_wp (nt := 46) (rs := [.tmp 6]) (k0 := 3) (by kernel_rfl) (by kernel_rfl) (by kernel_rfl) rfl ?_
  refine vcQ [] (lkL [(0, [1, 2, 3, 4]), (1, [2, 3, 4, 7])]) (fun _ => []) (fun (Q : AEx → St R.σ → Prop) => Wp Try.prog R 46 3 Rd.top (bodyOf Try.prog 63) [1, 0, 1, 0] (contQ Try.prog R 46 3 Rd.top (bodyOf Try.prog 63) Q [Kont.blk 0, Kont.seq [1, 1]]) (St.mk [(2, ref 0 0), (3, ref 1 0), (4, ref 3 0), (7, int i64 (↑many : Int))] [cells false 8 fun (a : Nat) => int i64 (old a), cells false 1 (nth [AV.mp 2]), AObj.map (mapE es), cells false 8 fun (a : Nat) => int i64 (p a)] g)) (fun _ => by kernel_rfl) (?_)
  refine (wp_loop (by kernel_rfl) (fun (i : Nat) => ⟨[(2, ref 0 0), (3, ref 1 0), (4, ref 3 0), (7, .int .i64 i)], [.cells false 8 (fun a => .int .i64 (old a)), .cells false 1 (nth [.mp 2]), .map (mapE es), .cells false 8 (fun a => .int .i64 (fillU p old many i a))], g⟩) (fun (i : Nat) => (many ≤ i ∧ i ≤ 8)) (fun (i : Nat) => (8 - i)) many (to_le ⟨(Le.refl _), ⟨(Le.refl _), ⟨(Le.refl _), ⟨(Le.refl _), trivial⟩⟩⟩⟩ ⟨LeO.rflc, ⟨LeO.rflc, ⟨rfl, ⟨(LeO.cells (fun j hj => ?_)), trivial⟩⟩⟩⟩ rfl) ?_ (fun i hi => ?_))
  · show AV.int .i64 (p j) = AV.int .i64 (if _ then _ else _)
    rw [if_neg (by omega)]
  · omega
  · refine vcQ [[1, 1]] (lkL [(2, [2, 3, 4, 7, 13]), (4, [2, 3, 4, 7]), (3, [2, 3, 4, 7])]) (fun _ => []) (fun (Q : AEx → St R.σ → Prop) => (decide ((↑i : Int) < 8) = true → (0 ≤ (↑i : Int) ∧ (↑i : Int) < (↑8 : Int)) ∧ i + 1 ≤ 8 ∧ (0 ≤ (↑i : Int) ∧ (↑i : Int) < (↑8 : Int)) ∧ i + 1 ≤ 8 ∧ (-9223372036854775808 ≤ (↑i : Int) + 1 ∧ (↑i : Int) + 1 ≤ 9223372036854775807) ∧ Q AEx.normal (St.mk [(2, ref 0 0), (3, ref 1 0), (4, ref 3 0), (7, int i64 ((↑i : Int) + 1))] [cells false 8 fun (a : Nat) => int i64 (old a), cells false 1 (nth [AV.mp 2]), AObj.map (mapE es), cells false 8 (over (fun (a : Nat) => int i64 (fillU p old many i a)) i 1 fun (x : Nat) => int i64 (old i))] g)) ∧ (decide ((↑i : Int) < 8) = false → Q (AEx.exit 0) (St.mk [(2, ref 0 0), (3, ref 1 0), (4, ref 3 0), (7, int i64 (↑i : Int)), (13, AV.bool (decide ((↑i : Int) < 8)))] [cells false 8 fun (a : Nat) => int i64 (old a), cells false 1 (nth [AV.mp 2]), AObj.map (mapE es), cells false 8 fun (a : Nat) => int i64 (fillU p old many i a)] g))) (fun _ => by kernel_rfl) ⟨fun c1 => have c1 : (↑i : Int) < 8 := (of_decide_eq_true c1); ⟨(by omega), ⟨(by omega), ⟨(by omega), ⟨(by omega), ⟨(by omega), ?_⟩⟩⟩⟩⟩, fun c1 => have c1 : ¬(↑i : Int) < 8 := (of_decide_eq_false c1); ?_⟩
    · refine (next_round (i + 1) (to_le ⟨(Le.refl _), ⟨(Le.refl _), ⟨(Le.refl _), ⟨(Le.of_eq (by kernel_rfl)), trivial⟩⟩⟩⟩ ⟨LeO.rflc, ⟨LeO.rflc, ⟨rfl, ⟨(LeO.cells (fun j hj => ?_)), trivial⟩⟩⟩⟩ rfl) ?_ ?_)
      · rw [over_eq]
        by_cases h : j = i
        · subst h
          rw [if_pos (by omega)]
          show AV.int .i64 _ = AV.int .i64 (if _ then _ else _)
          rw [if_pos (by omega)]
        · rw [if_neg (by omega)]
          show AV.int .i64 (if _ then _ else _) = AV.int .i64 (if _ then _ else _)
          by_cases h2 : many ≤ j ∧ j < i
          · rw [if_pos h2, if_pos (by omega)]
          · rw [if_neg h2, if_neg (by omega)]
      · omega
      · omega
    · have e8 : i = 8 := by omega
      refine ⟨_, To.refl _, (wp_to (s' := ⟨[(2, ref 0 0), (3, ref 1 0), (4, ref 3 0), (7, int i64 (↑i : Int)), (13, AV.bool (decide ((↑i : Int) < 8)))], [.cells false 8 (fun a => .int .i64 (old a)), .cells false 1 (nth [.mp 2]), .map (mapE es), .cells false 8 (fun a => .int .i64 (fillP p old many a))], g⟩) (to_le ⟨(Le.refl _), ⟨(Le.refl _), ⟨(Le.refl _), ⟨(Le.refl _), ⟨(Le.refl _), trivial⟩⟩⟩⟩⟩ ⟨LeO.rflc, ⟨LeO.rflc, ⟨rfl, ⟨(LeO.cells (fun j hj => ?_)), trivial⟩⟩⟩⟩ rfl) ?_)⟩
      · subst e8
        show AV.int .i64 (if _ then _ else _) = AV.int .i64 (if _ then _ else _)
        by_cases h2 : many ≤ j
        · rw [if_pos h2, if_pos (by omega)]
        · rw [if_neg h2, if_neg (by omega)]
      · have hno : ∀ e ∈ mapE es, e.1 ≠ kv (fillP p old many) := fun e h1 h2 => by
          obtain ⟨y, hy, rfl⟩ := mapE_mem h1
          have : hitB es (fillP p old many) = true := List.any_eq_true.2 ⟨y, hy, eq8_iff.2 h2⟩
          rw [hh] at this; cases this
        refine vcQ [] (lkL [(5, [2, 3, 4, 8, 9]), (6, [2, 3, 4, 8, 27]), (7, [6]), (8, [2, 3, 4, 8, 29])]) (lkL [(5, [(2, ROrc.own (tup 2 (nth [int i64 0, AV.bool false])) [cells false 8 fun (a : Nat) => int i64 (old a), cells false 1 (nth [AV.mp 2]), AObj.map (mapE es), cells false 8 fun (a : Nat) => int i64 (fillP p old many a)] g)])]) (fun (Q : AEx → St R.σ → Prop) => 1 ≤ 1 ∧ 8 ≤ 8 ∧ OpOk Try.prog R (Oper.mk (some 24) (Op.lookup 101 (Operand.tmp 22) (Operand.tmp 23) true) 102 "plan.go:153" #[Edge.mk 0 Ground.data, Edge.mk 1 Ground.data] none) (evO [Row.mk (some 23) none (encPlan (fillP p old many)) false (some []) [3], Row.mk (some 22) none (AV.mp 2) false (some []) [1]] [(2, ref 0 0), (3, ref 1 0), (4, ref 3 0), (7, int i64 (↑i : Int)), (13, AV.bool (decide ((↑i : Int) < 8)))] []) [cells false 8 fun (a : Nat) => int i64 (old a), cells false 1 (nth [AV.mp 2]), AObj.map (mapE es), cells false 8 fun (a : Nat) => int i64 (fillP p old many a)] g (tup 2 (nth [int i64 0, AV.bool false])) [cells false 8 fun (a : Nat) => int i64 (old a), cells false 1 (nth [AV.mp 2]), AObj.map (mapE es), cells false 8 fun (a : Nat) => int i64 (fillP p old many a)] g ∧ (false = true → Q AEx.ret (St.mk [(6, int i64 0)] [cells false 8 fun (a : Nat) => int i64 (old a), cells false 1 (nth [AV.mp 2]), AObj.map (mapE es), cells false 8 fun (a : Nat) => int i64 (fillP p old many a)] g)) ∧ (false = false → Wp Try.prog R 46 3 Rd.top (bodyOf Try.prog 63) [1, 1, 1, 1, 0, 1, 0] (contQ Try.prog R 46 3 Rd.top (bodyOf Try.prog 63) Q [Kont.blk 2, Kont.seq [1, 1, 1, 1, 1]]) (St.mk [(2, ref 0 0), (3, ref 1 0), (4, ref 3 0), (8, int i64 0), (29, int i64 0)] [cells false 8 fun (a : Nat) => int i64 (old a), cells false 1 (nth [AV.mp 2]), AObj.map (mapE es), cells false 8 fun (a : Nat) => int i64 (fillP p old many a)] g))) (fun _ => by kernel_rfl) ⟨(by omega), ⟨(by omega), ⟨?_, ⟨fun h => (nomatch h), fun _ => ?_⟩⟩⟩⟩
        · obtain ⟨ti, h1, h2⟩ := tyInt
          exact opOk_look_miss' (t := 101) (kt := 79) (vt := 3) (m := .tmp 22) (x := .tmp 23) (ob := 2) (es := mapE es) (kv := kv (fillP p old many)) (ti := ti) rfl (by kernel_rfl) plan_keyed h1 h2 rfl rfl (fun FM ρ v h => den_plan h) (key_plan (fit_fill hp ho)) (mapE_keys he) hno
        · refine (wp_loop (by kernel_rfl) (fun (k : Nat) => ⟨[(2, ref 0 0), (3, ref 1 0), (4, ref 3 0), (8, .int .i64 (cntN k (fun j => fillP p old many j != old j))), (29, .int .i64 k)], [cells false 8 fun (a : Nat) => int i64 (old a), cells false 1 (nth [AV.mp 2]), AObj.map (mapE es), cells false 8 fun (a : Nat) => int i64 (fillP p old many a)], g⟩) (fun (k : Nat) => (k ≤ 8)) (fun (k : Nat) => (8 - k)) 0 (to_fr ⟨(Le.refl _), ⟨(Le.refl _), ⟨(Le.refl _), ⟨(Le.of_eq (by kernel_rfl)), ⟨(Le.of_eq (by kernel_rfl)), trivial⟩⟩⟩⟩⟩ rfl rfl) ?_ (fun k hi => ?_))
          · omega
          · have hk := cntN_le k (fun j => fillP p old many j != old j)
            refine vcQ [[1, 1, 1, 1, 1]] (lkL [(9, [2, 3, 4, 8, 29, 30]), (10, [2, 3, 4, 8, 10, 29]), (11, [2, 3, 4, 8, 29, 38]), (12, [2, 3, 4, 8, 29]), (13, [2, 3, 4, 8, 29])]) (fun _ => []) (fun (Q : AEx → St R.σ → Prop) => (decide ((↑k : Int) < 8) = true → Tables.follows Try.prog.toTables Departure.mixedOrders = true ∧ (0 ≤ (↑k : Int) ∧ (↑k : Int) < (↑8 : Int)) ∧ k + 1 ≤ 8 ∧ (0 ≤ (↑k : Int) ∧ (↑k : Int) < (↑8 : Int)) ∧ k + 1 ≤ 8 ∧ ((fillP p old many k != old k) = true → (-9223372036854775808 ≤ (↑(cntN k fun (j : Nat) => fillP p old many j != old j) : Int) + 1 ∧ (↑(cntN k fun (j : Nat) => fillP p old many j != old j) : Int) + 1 ≤ 9223372036854775807) ∧ (-9223372036854775808 ≤ (↑k : Int) + 1 ∧ (↑k : Int) + 1 ≤ 9223372036854775807) ∧ Q AEx.normal (St.mk [(2, ref 0 0), (3, ref 1 0), (4, ref 3 0), (8, int i64 ((↑(cntN k fun (j : Nat) => fillP p old many j != old j) : Int) + 1)), (29, int i64 ((↑k : Int) + 1))] [cells false 8 fun (a : Nat) => int i64 (old a), cells false 1 (nth [AV.mp 2]), AObj.map (mapE es), cells false 8 fun (a : Nat) => int i64 (fillP p old many a)] g)) ∧ ((fillP p old many k != old k) = false → (-9223372036854775808 ≤ (↑k : Int) + 1 ∧ (↑k : Int) + 1 ≤ 9223372036854775807) ∧ Q AEx.normal (St.mk [(2, ref 0 0), (3, ref 1 0), (4, ref 3 0), (8, int i64 (↑(cntN k fun (j : Nat) => fillP p old many j != old j) : Int)), (29, int i64 ((↑k : Int) + 1))] [cells false 8 fun (a : Nat) => int i64 (old a), cells false 1 (nth [AV.mp 2]), AObj.map (mapE es), cells false 8 fun (a : Nat) => int i64 (fillP p old many a)] g))) ∧ (decide ((↑k : Int) < 8) = false → Q (AEx.exit 2) (St.mk [(2, ref 0 0), (3, ref 1 0), (4, ref 3 0), (8, int i64 (↑(cntN k fun (j : Nat) => fillP p old many j != old j) : Int)), (29, int i64 (↑k : Int)), (30, AV.bool (decide ((↑k : Int) < 8)))] [cells false 8 fun (a : Nat) => int i64 (old a), cells false 1 (nth [AV.mp 2]), AObj.map (mapE es), cells false 8 fun (a : Nat) => int i64 (fillP p old many a)] g))) (fun _ => by kernel_rfl) ⟨fun c1 => have c1 : (↑k : Int) < 8 := (of_decide_eq_true c1); ⟨(by kernel_rfl), ⟨(by omega), ⟨(by omega), ⟨(by omega), ⟨(by omega), ⟨fun c2 => have c2 : ¬fillP p old many k = old k := (bne_iff_ne.mp c2); ⟨(by omega), ⟨(by omega), ?_⟩⟩, fun c2 => have c2 : fillP p old many k = old k := (bne_eq_false_iff_eq.mp c2); ⟨(by omega), ?_⟩⟩⟩⟩⟩⟩⟩, fun c1 => have c1 : ¬(↑k : Int) < 8 := (of_decide_eq_false c1); ?_⟩
            · refine (next_round (k + 1) (to_fr ⟨(Le.refl _), ⟨(Le.refl _), ⟨(Le.refl _), ⟨(Le.of_eq ?_), ⟨(Le.of_eq (by kernel_rfl)), trivial⟩⟩⟩⟩⟩ rfl rfl) ?_ ?_)
              · show AV.int .i64 _ = AV.int .i64 _
                rw [cntN_succ, if_pos (by simpa using c2)]
                congr 1
              · omega
              · omega
            · refine (next_round (k + 1) (to_fr ⟨(Le.refl _), ⟨(Le.refl _), ⟨(Le.refl _), ⟨(Le.of_eq ?_), ⟨(Le.of_eq (by kernel_rfl)), trivial⟩⟩⟩⟩⟩ rfl rfl) ?_ ?_)
              · show AV.int .i64 _ = AV.int .i64 _
                rw [cntN_succ, if_neg (by simpa using c2)]
                congr 1
              · omega
              · omega
            · have ek : k = 8 := by omega
              subst ek
              refine ⟨_, To.refl _, vcQ [] (lkL [(14, [8]), (15, [6])]) (lkL [(14, [(3, ROrc.own any [cells false 8 fun (a : Nat) => int i64 (old a), cells false 1 (nth [AV.mp 2]), AObj.map (mapE es ++ [(kv (fillP p old many), int i64 (↑(farN p old many) : Int))]), cells false 8 fun (a : Nat) => int i64 (fillP p old many a)] g)])]) (fun (Q : AEx → St R.σ → Prop) => 1 ≤ 1 ∧ 8 ≤ 8 ∧ OpOk Try.prog R (Oper.mk none (Op.mapUpdate 101 (Operand.tmp 42) (Operand.tmp 43) (Operand.tmp 44)) 0 "plan.go:162" #[Edge.mk 0 Ground.data, Edge.mk 1 Ground.data, Edge.mk 2 Ground.data, Edge.mk 0 Ground.phase, Edge.mk 1 Ground.phase, Edge.mk 2 Ground.phase] none) (evO [Row.mk (some 44) none (int i64 (↑(cntN 8 fun (j : Nat) => fillP p old many j != old j) : Int)) false (some []) [], Row.mk (some 43) none (encPlan (fillP p old many)) false (some []) [3], Row.mk (some 42) none (AV.mp 2) false (some []) [1]] [(2, ref 0 0), (3, ref 1 0), (4, ref 3 0), (8, int i64 (↑(cntN 8 fun (j : Nat) => fillP p old many j != old j) : Int)), (29, int i64 (↑8 : Int)), (30, AV.bool false)] []) [cells false 8 fun (a : Nat) => int i64 (old a), cells false 1 (nth [AV.mp 2]), AObj.map (mapE es), cells false 8 fun (a : Nat) => int i64 (fillP p old many a)] g any [cells false 8 fun (a : Nat) => int i64 (old a), cells false 1 (nth [AV.mp 2]), AObj.map (mapE es ++ [(kv (fillP p old many), int i64 (↑(farN p old many) : Int))]), cells false 8 fun (a : Nat) => int i64 (fillP p old many a)] g ∧ Q AEx.ret (St.mk [(6, int i64 (↑(cntN 8 fun (j : Nat) => fillP p old many j != old j) : Int))] [cells false 8 fun (a : Nat) => int i64 (old a), cells false 1 (nth [AV.mp 2]), AObj.map (mapE es ++ [(kv (fillP p old many), int i64 (↑(farN p old many) : Int))]), cells false 8 fun (a : Nat) => int i64 (fillP p old many a)] g)) (fun _ => by kernel_rfl) ⟨(by omega), ⟨(by omega), ⟨?_, ?_⟩⟩⟩⟩
              · exact opOk_mapNew (t := 101) (kt := 79) (vt := 3) (m := .tmp 42) (x := .tmp 43) (y := .tmp 44) (ob := 2) (es := mapE es) (kv := kv (fillP p old many)) (d := .int .i64 (farN p old many)) rfl (by kernel_rfl) plan_keyed rfl rfl (fun FM ρ v h => den_plan h) rfl trivial (key_plan (fit_fill hp ho)) (mapE_keys he) hno
              · refine (retQ_le (retQ_take' 3 _ _ rfl trivial (by omega) trivial ⟨(fun j hj => match j, hj with | 0, _ => trivial | 1, _ => trivial | 2, _ => trivial | 3, _ => trivial | 4, _ => trivial | 5, _ => trivial | 6, _ => trivial | 7, _ => trivial ), ⟨(fun j hj => match j, hj with | 0, _ => (show 3 ≤ 3 by omega) ), trivial⟩⟩ (by kernel_rfl) rfl rfl) (Le.of_eq (by kernel_rfl)))
theorem c_far (R : Res) (p old : Nat → Int) (many : Nat) (es : List ((Nat → Int) × Int)) (g : R.σ) (hm : many ≤ 8) (hp : ∀ j, j < many → -100 ≤ p j ∧ p j ≤ 100) (ho : fitP old) (he : okE es old) :
    Does Try.prog R 63 [encPlan p, .int .i64 many, .ref 0 0, .ref 1 0] (hpM old es) g (.ret (.int .i64 (farN p old many))) (hpM old (putE es p old many)) g := by
  cases hh : hitB es (fillP p old many) with
  | true =>
    have e : putE es p old many = es := by unfold putE; rw [hh]; rfl
    rw [e]
    exact far_hit R p old many es g hm hp ho he hh
  | false =>
    have e : hpM old (putE es p old many) = [.cells false 8 (fun a => .int .i64 (old a)), .cells false 1 (nth [.mp 2]), .map (mapE es ++ [(kv (fillP p old many), .int .i64 (farN p old many))])] := by
      unfold hpM putE mapE
      rw [hh]
      simp
    rw [e]
    exact far_miss R p old many es g hm hp ho he hh
end Go.Avm.Pack
namespace Go.Avm.Pack
open Go Go.Avm Go.Proofs
open Go.IntKind (i64 u64)
open Go.Avm.AV (int bool any fz fp sl ow ref fn ifc val agg tup)
open Go.Avm.AObj (cells dead)
open Go.Avm.Oc (ret)
set_option maxRecDepth 4000
structure NearS where
  es : List ((Nat → Int) × Int)
  out : List Int
  best : Int
def hpC (x : Ix) (gl : KL Rng) (old : Nat → Int) (b : NearS) : List AObj := [.cells false 1 (nth [encPacks x]), .cells false 2 (nth [encPacks x, encR gl]), .cells false 8 (fun a => .int .i64 (old a)), .cells false 1 (nth [.int .i64 b.best]), .map (mapE b.es), .cells false 1 (nth [.mp 4]), .cells false 1 (nth [.fn 63 0 (nth []) 2 (nth [.ref 2 0, .ref 5 0])]), .cells false 1 (nth [encI ⟨b.out, .auto⟩])]
theorem Closest2 (R : Res) (x : Ix) (gl : KL Rng) (old : Nat → Int) (b : NearS) (p : Nat → Int) (m : Nat) (g : R.σ) (hm : m ≤ 8) (hp : ∀ j, j < m → -100 ≤ p j ∧ p j ≤ 100) (ho : fitP old) (he : okE b.es old) :
    Does Try.prog R 64 [encPlan p, .int .i64 m, .ref 6 0, .ref 3 0] (hpC x gl old b) g (.ret (.bool (decide ((farN p old m : Int) < b.best)))) (hpC x gl old ⟨putE b.es p old m, b.out, b.best⟩) g := by
  refine spec_of_wp (nt := 13) (rs := [.tmp 6]) (k0 := 8) (by kernel_rfl) (by kernel_rfl) (by kernel_rfl) rfl ?_
  refine vcQ [] (lkL [(0, [1, 2, 3, 4]), (1, [6])]) (lkL [(1, [(3, ROrc.callS (int i64 (↑(farN p old m) : Int)) [(4, AObj.map (mapE (putE b.es p old m)))] g)])]) (fun (Q : AEx → St R.σ → Prop) => Tables.follows Try.prog.toTables Departure.mixedOrders = true ∧ 1 ≤ 1 ∧ 8 ≤ 8 ∧ (true = true ∧ Does Try.prog R 63 [encPlan p, int i64 (↑m : Int), ref 2 0, ref 5 0] [cells false 1 (nth [encPacks x]), cells false 2 (nth [encPacks x, encR gl]), cells false 8 fun (a : Nat) => int i64 (old a), cells false 1 (nth [int i64 b.best]), AObj.map (mapE b.es), cells false 1 (nth [AV.mp 4]), cells false 1 (nth [fn 63 0 (nth []) 2 (nth [ref 2 0, ref 5 0])]), cells false 1 (nth [fz Fz.auto 1 (List.length b.out) fun (i x : Nat) => int i64 (List.getD b.out i 0)]), cells false 8 fun (a : Nat) => int i64 (p a)] g (ret (int i64 (↑(farN p old m) : Int))) [cells false 1 (nth [encPacks x]), cells false 2 (nth [encPacks x, encR gl]), cells false 8 fun (a : Nat) => int i64 (old a), cells false 1 (nth [int i64 b.best]), AObj.map (mapE (putE b.es p old m)), cells false 1 (nth [AV.mp 4]), cells false 1 (nth [fn 63 0 (nth []) 2 (nth [ref 2 0, ref 5 0])]), cells false 1 (nth [fz Fz.auto 1 (List.length b.out) fun (i x : Nat) => int i64 (List.getD b.out i 0)]), cells false 8 fun (a : Nat) => int i64 (p a)] g) ∧ 1 ≤ 1 ∧ Q AEx.ret (St.mk [(6, AV.bool (decide ((↑(farN p old m) : Int) < b.best)))] [cells false 1 (nth [encPacks x]), cells false 2 (nth [encPacks x, encR gl]), cells false 8 fun (a : Nat) => int i64 (old a), cells false 1 (nth [int i64 b.best]), AObj.map (mapE (putE b.es p old m)), cells false 1 (nth [AV.mp 4]), cells false 1 (nth [fn 63 0 (nth []) 2 (nth [ref 2 0, ref 5 0])]), cells false 1 (nth [fz Fz.auto 1 (List.length b.out) fun (i x : Nat) => int i64 (List.getD b.out i 0)]), cells false 8 fun (a : Nat) => int i64 (p a)] g)) (fun _ => by kernel_rfl) ⟨(by kernel_rfl), ⟨(by omega), ⟨(by omega), ⟨⟨rfl, (does_sub' [2, 5, 4] 9 (fun R g => Go.Avm.Pack.c_far R (p) (old) (m) (b.es) g (by omega) (by omega) (by omega) (by omega)) rfl rfl rfl (by exact ⟨⟨rfl, Nat.le_refl _, fun j hj => match j, hj with | 0, _ => (Le.refl _) | 1, _ => (Le.refl _) | 2, _ => (Le.refl _) | 3, _ => (Le.refl _) | 4, _ => (Le.refl _) | 5, _ => (Le.refl _) | 6, _ => (Le.refl _) | 7, _ => (Le.refl _) ⟩, ⟨⟨rfl, Nat.le_refl _, fun j hj => match j, hj with | 0, _ => (Le.refl _) ⟩, ⟨rfl, trivial⟩⟩⟩) (by exact ⟨by omega, ⟨by omega, trivial⟩⟩) (by exact ⟨le_ren (by exact ⟨⟨⟨⟨⟨⟨⟨⟨trivial, trivial⟩, trivial⟩, trivial⟩, trivial⟩, trivial⟩, trivial⟩, trivial⟩, trivial⟩), ⟨le_ren (by exact trivial), ⟨(Le.refl _), ⟨(Le.refl _), trivial⟩⟩⟩⟩) (by exact le_unren (by exact trivial)) (by exact ⟨LeO.rflc, ⟨LeO.rflc, ⟨⟨rfl, Nat.le_refl _, fun j hj => match j, hj with | 0, _ => (Le.refl _) | 1, _ => (Le.refl _) | 2, _ => (Le.refl _) | 3, _ => (Le.refl _) | 4, _ => (Le.refl _) | 5, _ => (Le.refl _) | 6, _ => (Le.refl _) | 7, _ => (Le.refl _) ⟩, ⟨LeO.rflc, ⟨rfl, ⟨⟨rfl, Nat.le_refl _, fun j hj => match j, hj with | 0, _ => (Le.refl _) ⟩, ⟨LeO.rflc, ⟨LeO.rflc, ⟨LeO.rflc, trivial⟩⟩⟩⟩⟩⟩⟩⟩⟩))⟩, ⟨(by omega), ?_⟩⟩⟩⟩⟩
  refine (retQ_le (retQ_take' 8 _ _ rfl trivial (by omega) trivial ⟨(fun j hj => match j, hj with | 0, _ => trivial ), ⟨(fun j hj => match j, hj with | 0, _ => trivial | 1, _ => trivial ), ⟨(fun j hj => match j, hj with | 0, _ => trivial | 1, _ => trivial | 2, _ => trivial | 3, _ => trivial | 4, _ => trivial | 5, _ => trivial | 6, _ => trivial | 7, _ => trivial ), ⟨(fun j hj => match j, hj with | 0, _ => trivial ), ⟨(fun j hj => match j, hj with | 0, _ => (show 5 ≤ 8 by omega) ), ⟨(fun j hj => match j, hj with | 0, _ => ⟨trivial, ⟨⟨trivial, (show 3 ≤ 8 by omega)⟩, (show 6 ≤ 8 by omega)⟩⟩ ), ⟨(fun j hj => match j, hj with | 0, _ => trivial ), trivial⟩⟩⟩⟩⟩⟩⟩ (by kernel_rfl) rfl rfl) (Le.refl _))
theorem Closest3 (R : Res) (x : Ix) (gl : KL Rng) (old : Nat → Int) (b : NearS) (p : Nat → Int) (g : R.σ) (hp : ∀ j, j < x.l.length → -100 ≤ p j ∧ p j ≤ 100) (ho : fitP old) (he : okE b.es old)
    (h1 : 1 ≤ x.l.length) (h8 : x.l.length ≤ 8) (h : inP x p) (hw : wfN x p) (hwb : wfB x p) (hl : smallN x p) (hlb : smallB' x p) (hg : gl.l.length < 1000000) (hgl : ∀ r ∈ gl.l, 0 ≤ r.pack ∧ r.pack < x.l.length) :
    Does Try.prog R 65 [encPlan p, .ref 1 0, .ref 0 0, .ref 6 0, .ref 7 0, .ref 3 0] (hpC x gl old b) g (.ret (.bool true)) (hpC x gl old (if fineB x gl.l p then ⟨putE b.es p old x.l.length, planL p x.l.length, farN p old x.l.length⟩ else b)) g := by
  cases hf : fineB x gl.l p with
  | true =>
    rw [if_pos rfl]
    refine spec_of_wp (nt := 24) (rs := [.tmp 7]) (k0 := 8) (by kernel_rfl) (by kernel_rfl) (by kernel_rfl) rfl ?_
    refine vcQ [] (lkL [(0, [1, 2, 3, 4, 5, 6]), (1, [2, 3, 4, 5, 6, 12]), (3, [7])]) (lkL [(1, [(2, ROrc.pcall (agg 2 (nth [int i64 (faultOf x gl.l p).fst, int i64 (faultOf x gl.l p).snd])))]), (2, [(4, ROrc.kcall (fz Fz.auto 1 (List.length (planL p (List.length x.l - 0))) fun (i x_1 : Nat) => int i64 (List.getD (planL p (List.length x.l - 0)) i 0))), (10, ROrc.callS (int i64 (↑(farN p old (List.length x.l)) : Int)) [(4, AObj.map (mapE (putE b.es p old (List.length x.l))))] g), (11, ROrc.val (Orc.obj (nth [fz Fz.auto 1 (List.length (planL p (List.length x.l - 0))) fun (i x_1 : Nat) => int i64 (List.getD (planL p (List.length x.l - 0)) i 0)]))), (12, ROrc.val (Orc.obj (nth [int i64 (↑(farN p old (List.length x.l)) : Int)])))])]) (fun (Q : AEx → St R.σ → Prop) => 2 ≤ 2 ∧ 8 ≤ 8 ∧ (∀ (hp : List AObj) (g : R.σ), true = true ∧ Does Try.prog R 47 [encMkt x gl, encPlan p] hp g (ret (agg 2 (nth [int i64 (faultOf x gl.l p).fst, int i64 (faultOf x gl.l p).snd]))) hp g) ∧ (((faultOf x gl.l p).fst == 0 && ((faultOf x gl.l p).snd == 0 && true)) = true → Tables.follows Try.prog.toTables Departure.mixedOrders = true ∧ 1 ≤ 1 ∧ (0 ≤ (↑(List.length x.l) : Int) ∧ (↑(List.length x.l) : Int) ≤ (↑8 : Int)) ∧ 0 < 8 ∧ 8 ≤ 8 ∧ 0 < 8 ∧ (true = true ∧ Does Try.prog R 37 [sl 8 0 (List.length x.l - 0) 8 true 1] [cells false 1 (nth [encPacks x]), cells false 2 (nth [encPacks x, encR gl]), cells false 8 fun (a : Nat) => int i64 (old a), cells false 1 (nth [int i64 b.best]), AObj.map (mapE b.es), cells false 1 (nth [AV.mp 4]), cells false 1 (nth [fn 63 0 (nth []) 2 (nth [ref 2 0, ref 5 0])]), cells false 1 (nth [fz Fz.auto 1 (List.length b.out) fun (i x : Nat) => int i64 (List.getD b.out i 0)]), cells false 8 fun (a : Nat) => int i64 (p a)] g (ret (fz Fz.auto 1 (List.length (planL p (List.length x.l - 0))) fun (i x_2 : Nat) => int i64 (List.getD (planL p (List.length x.l - 0)) i 0))) [cells false 1 (nth [encPacks x]), cells false 2 (nth [encPacks x, encR gl]), cells false 8 fun (a : Nat) => int i64 (old a), cells false 1 (nth [int i64 b.best]), AObj.map (mapE b.es), cells false 1 (nth [AV.mp 4]), cells false 1 (nth [fn 63 0 (nth []) 2 (nth [ref 2 0, ref 5 0])]), cells false 1 (nth [fz Fz.auto 1 (List.length b.out) fun (i x : Nat) => int i64 (List.getD b.out i 0)]), cells false 8 fun (a : Nat) => int i64 (p a)] g) ∧ 1 ≤ 1 ∧ 8 ≤ 8 ∧ 1 ≤ 1 ∧ (true = true ∧ Does Try.prog R 63 [encPlan p, int i64 (↑(List.length x.l) : Int), ref 2 0, ref 5 0] [cells false 1 (nth [encPacks x]), cells false 2 (nth [encPacks x, encR gl]), cells false 8 fun (a : Nat) => int i64 (old a), cells false 1 (nth [int i64 b.best]), AObj.map (mapE b.es), cells false 1 (nth [AV.mp 4]), cells false 1 (nth [fn 63 0 (nth []) 2 (nth [ref 2 0, ref 5 0])]), cells false 1 (nth [fz Fz.auto 1 (List.length b.out) fun (i x : Nat) => int i64 (List.getD b.out i 0)]), cells false 8 fun (a : Nat) => int i64 (p a)] g (ret (int i64 (↑(farN p old (List.length x.l)) : Int))) [cells false 1 (nth [encPacks x]), cells false 2 (nth [encPacks x, encR gl]), cells false 8 fun (a : Nat) => int i64 (old a), cells false 1 (nth [int i64 b.best]), AObj.map (mapE (putE b.es p old (List.length x.l))), cells false 1 (nth [AV.mp 4]), cells false 1 (nth [fn 63 0 (nth []) 2 (nth [ref 2 0, ref 5 0])]), cells false 1 (nth [fz Fz.auto 1 (List.length b.out) fun (i x : Nat) => int i64 (List.getD b.out i 0)]), cells false 8 fun (a : Nat) => int i64 (p a)] g) ∧ 1 ≤ 1 ∧ (∀ (c : Nat), c < 1 → nth [fz Fz.auto 1 (List.length (planL p (List.length x.l - 0))) fun (i x_2 : Nat) => int i64 (List.getD (planL p (List.length x.l - 0)) i 0)] c = over (nth [fz Fz.auto 1 (List.length b.out) fun (i x : Nat) => int i64 (List.getD b.out i 0)]) 0 1 (fun (x_2 : Nat) => fz Fz.auto 1 (List.length (planL p (List.length x.l - 0))) fun (i x_3 : Nat) => int i64 (List.getD (planL p (List.length x.l - 0)) i 0)) c) ∧ 1 ≤ 1 ∧ (∀ (c : Nat), c < 1 → nth [int i64 (↑(farN p old (List.length x.l)) : Int)] c = over (nth [int i64 b.best]) 0 1 (fun (x_2 : Nat) => int i64 (↑(farN p old (List.length x.l)) : Int)) c) ∧ Q AEx.ret (St.mk [(7, AV.bool true)] [cells false 1 (nth [encPacks x]), cells false 2 (nth [encPacks x, encR gl]), cells false 8 fun (a : Nat) => int i64 (old a), cells false 1 (nth [int i64 (↑(farN p old (List.length x.l)) : Int)]), AObj.map (mapE (putE b.es p old (List.length x.l))), cells false 1 (nth [AV.mp 4]), cells false 1 (nth [fn 63 0 (nth []) 2 (nth [ref 2 0, ref 5 0])]), cells false 1 (nth [fz Fz.auto 1 (List.length (planL p (List.length x.l - 0))) fun (i x_2 : Nat) => int i64 (List.getD (planL p (List.length x.l - 0)) i 0)]), cells false 8 fun (a : Nat) => int i64 (p a)] g)) ∧ (((faultOf x gl.l p).fst == 0 && ((faultOf x gl.l p).snd == 0 && true)) = false → Q AEx.ret (St.mk [(7, AV.bool true)] [cells false 1 (nth [encPacks x]), cells false 2 (nth [encPacks x, encR gl]), cells false 8 fun (a : Nat) => int i64 (old a), cells false 1 (nth [int i64 b.best]), AObj.map (mapE b.es), cells false 1 (nth [AV.mp 4]), cells false 1 (nth [fn 63 0 (nth []) 2 (nth [ref 2 0, ref 5 0])]), cells false 1 (nth [fz Fz.auto 1 (List.length b.out) fun (i x : Nat) => int i64 (List.getD b.out i 0)]), cells false 8 fun (a : Nat) => int i64 (p a)] g))) (fun _ => by kernel_rfl) ⟨(by omega), ⟨(by omega), ⟨(fun _ _ => ⟨rfl, (Go.Avm.Pack.c_fault _ _ _ _ _ _ (by omega) (by omega) (by omega) (by omega) (by omega) (by omega) (by omega) (by omega))⟩), ⟨fun c1 => ⟨(by kernel_rfl), ⟨(by omega), ⟨(by omega), ⟨(by omega), ⟨(by omega), ⟨(by omega), ⟨⟨rfl, (does_sub' [8] 9 (fun R g => Go.Avm.Pack.c_CloneA R (p) (List.length x.l - 0) g (by omega) (by omega)) rfl rfl rfl (by exact ⟨⟨rfl, Nat.le_refl _, fun j hj => match j, hj with | 0, _ => (Le.refl _) | 1, _ => (Le.refl _) | 2, _ => (Le.refl _) | 3, _ => (Le.refl _) | 4, _ => (Le.refl _) | 5, _ => (Le.refl _) | 6, _ => (Le.refl _) | 7, _ => (Le.refl _) ⟩, trivial⟩) (by exact ⟨by omega, trivial⟩) (by exact ⟨(Le.refl _), trivial⟩) (by exact le_unren (by exact trivial)) (by exact ⟨LeO.rflc, ⟨LeO.rflc, ⟨LeO.rflc, ⟨LeO.rflc, ⟨rfl, ⟨LeO.rflc, ⟨LeO.rflc, ⟨LeO.rflc, ⟨⟨rfl, Nat.le_refl _, fun j hj => match j, hj with | 0, _ => (Le.refl _) | 1, _ => (Le.refl _) | 2, _ => (Le.refl _) | 3, _ => (Le.refl _) | 4, _ => (Le.refl _) | 5, _ => (Le.refl _) | 6, _ => (Le.refl _) | 7, _ => (Le.refl _) ⟩, trivial⟩⟩⟩⟩⟩⟩⟩⟩⟩))⟩, ⟨(by omega), ⟨(by omega), ⟨(by omega), ⟨⟨rfl, (does_sub' [2, 5, 4] 9 (fun R g => Go.Avm.Pack.c_far R (p) (old) (List.length x.l) (b.es) g (by omega) (by omega) (by omega) (by omega)) rfl rfl rfl (by exact ⟨⟨rfl, Nat.le_refl _, fun j hj => match j, hj with | 0, _ => (Le.refl _) | 1, _ => (Le.refl _) | 2, _ => (Le.refl _) | 3, _ => (Le.refl _) | 4, _ => (Le.refl _) | 5, _ => (Le.refl _) | 6, _ => (Le.refl _) | 7, _ => (Le.refl _) ⟩, ⟨⟨rfl, Nat.le_refl _, fun j hj => match j, hj with | 0, _ => (Le.refl _) ⟩, ⟨rfl, trivial⟩⟩⟩) (by exact ⟨by omega, ⟨by omega, trivial⟩⟩) (by exact ⟨le_ren (by exact ⟨⟨⟨⟨⟨⟨⟨⟨trivial, trivial⟩, trivial⟩, trivial⟩, trivial⟩, trivial⟩, trivial⟩, trivial⟩, trivial⟩), ⟨le_ren (by exact trivial), ⟨(Le.refl _), ⟨(Le.refl _), trivial⟩⟩⟩⟩) (by exact le_unren (by exact trivial)) (by exact ⟨LeO.rflc, ⟨LeO.rflc, ⟨⟨rfl, Nat.le_refl _, fun j hj => match j, hj with | 0, _ => (Le.refl _) | 1, _ => (Le.refl _) | 2, _ => (Le.refl _) | 3, _ => (Le.refl _) | 4, _ => (Le.refl _) | 5, _ => (Le.refl _) | 6, _ => (Le.refl _) | 7, _ => (Le.refl _) ⟩, ⟨LeO.rflc, ⟨rfl, ⟨⟨rfl, Nat.le_refl _, fun j hj => match j, hj with | 0, _ => (Le.refl _) ⟩, ⟨LeO.rflc, ⟨LeO.rflc, ⟨LeO.rflc, trivial⟩⟩⟩⟩⟩⟩⟩⟩⟩))⟩, ⟨(by omega), ⟨(fun c hc => match c, hc with | 0, _ => (by kernel_rfl) ), ⟨(by omega), ⟨(fun c hc => match c, hc with | 0, _ => (by kernel_rfl) ), ?_⟩⟩⟩⟩⟩⟩⟩⟩⟩⟩⟩⟩⟩⟩⟩, fun c1 => ?_⟩⟩⟩⟩
    · refine (retQ_le (retQ_take' 8 _ _ rfl trivial (by omega) trivial ⟨(fun j hj => match j, hj with | 0, _ => trivial ), ⟨(fun j hj => match j, hj with | 0, _ => trivial | 1, _ => trivial ), ⟨(fun j hj => match j, hj with | 0, _ => trivial | 1, _ => trivial | 2, _ => trivial | 3, _ => trivial | 4, _ => trivial | 5, _ => trivial | 6, _ => trivial | 7, _ => trivial ), ⟨(fun j hj => match j, hj with | 0, _ => trivial ), ⟨(fun j hj => match j, hj with | 0, _ => (show 5 ≤ 8 by omega) ), ⟨(fun j hj => match j, hj with | 0, _ => ⟨trivial, ⟨⟨trivial, (show 3 ≤ 8 by omega)⟩, (show 6 ≤ 8 by omega)⟩⟩ ), ⟨(fun j hj => match j, hj with | 0, _ => trivial ), trivial⟩⟩⟩⟩⟩⟩⟩ (by kernel_rfl) rfl rfl) (Le.refl _))
    · exact absurd (show fineB x gl.l p = false from c1) (by rw [hf]; decide)
  | false =>
    rw [if_neg (by decide)]
    refine spec_of_wp (nt := 24) (rs := [.tmp 7]) (k0 := 8) (by kernel_rfl) (by kernel_rfl) (by kernel_rfl) rfl ?_
    refine vcQ [] (lkL [(0, [1, 2, 3, 4, 5, 6]), (1, [2, 3, 4, 5, 6, 12]), (3, [7])]) (lkL [(1, [(2, ROrc.pcall (agg 2 (nth [int i64 (faultOf x gl.l p).fst, int i64 (faultOf x gl.l p).snd])))]), (2, [(4, ROrc.kcall (fz Fz.auto 1 (List.length (planL p (List.length x.l - 0))) fun (i x_1 : Nat) => int i64 (List.getD (planL p (List.length x.l - 0)) i 0))), (10, ROrc.callS (int i64 (↑(farN p old (List.length x.l)) : Int)) [(4, AObj.map (mapE (putE b.es p old (List.length x.l))))] g), (11, ROrc.val (Orc.obj (nth [fz Fz.auto 1 (List.length (planL p (List.length x.l - 0))) fun (i x_1 : Nat) => int i64 (List.getD (planL p (List.length x.l - 0)) i 0)]))), (12, ROrc.val (Orc.obj (nth [int i64 (↑(farN p old (List.length x.l)) : Int)])))])]) (fun (Q : AEx → St R.σ → Prop) => 2 ≤ 2 ∧ 8 ≤ 8 ∧ (∀ (hp : List AObj) (g : R.σ), true = true ∧ Does Try.prog R 47 [encMkt x gl, encPlan p] hp g (ret (agg 2 (nth [int i64 (faultOf x gl.l p).fst, int i64 (faultOf x gl.l p).snd]))) hp g) ∧ (((faultOf x gl.l p).fst == 0 && ((faultOf x gl.l p).snd == 0 && true)) = true → Tables.follows Try.prog.toTables Departure.mixedOrders = true ∧ 1 ≤ 1 ∧ (0 ≤ (↑(List.length x.l) : Int) ∧ (↑(List.length x.l) : Int) ≤ (↑8 : Int)) ∧ 0 < 8 ∧ 8 ≤ 8 ∧ 0 < 8 ∧ (true = true ∧ Does Try.prog R 37 [sl 8 0 (List.length x.l - 0) 8 true 1] [cells false 1 (nth [encPacks x]), cells false 2 (nth [encPacks x, encR gl]), cells false 8 fun (a : Nat) => int i64 (old a), cells false 1 (nth [int i64 b.best]), AObj.map (mapE b.es), cells false 1 (nth [AV.mp 4]), cells false 1 (nth [fn 63 0 (nth []) 2 (nth [ref 2 0, ref 5 0])]), cells false 1 (nth [fz Fz.auto 1 (List.length b.out) fun (i x : Nat) => int i64 (List.getD b.out i 0)]), cells false 8 fun (a : Nat) => int i64 (p a)] g (ret (fz Fz.auto 1 (List.length (planL p (List.length x.l - 0))) fun (i x_2 : Nat) => int i64 (List.getD (planL p (List.length x.l - 0)) i 0))) [cells false 1 (nth [encPacks x]), cells false 2 (nth [encPacks x, encR gl]), cells false 8 fun (a : Nat) => int i64 (old a), cells false 1 (nth [int i64 b.best]), AObj.map (mapE b.es), cells false 1 (nth [AV.mp 4]), cells false 1 (nth [fn 63 0 (nth []) 2 (nth [ref 2 0, ref 5 0])]), cells false 1 (nth [fz Fz.auto 1 (List.length b.out) fun (i x : Nat) => int i64 (List.getD b.out i 0)]), cells false 8 fun (a : Nat) => int i64 (p a)] g) ∧ 1 ≤ 1 ∧ 8 ≤ 8 ∧ 1 ≤ 1 ∧ (true = true ∧ Does Try.prog R 63 [encPlan p, int i64 (↑(List.length x.l) : Int), ref 2 0, ref 5 0] [cells false 1 (nth [encPacks x]), cells false 2 (nth [encPacks x, encR gl]), cells false 8 fun (a : Nat) => int i64 (old a), cells false 1 (nth [int i64 b.best]), AObj.map (mapE b.es), cells false 1 (nth [AV.mp 4]), cells false 1 (nth [fn 63 0 (nth []) 2 (nth [ref 2 0, ref 5 0])]), cells false 1 (nth [fz Fz.auto 1 (List.length b.out) fun (i x : Nat) => int i64 (List.getD b.out i 0)]), cells false 8 fun (a : Nat) => int i64 (p a)] g (ret (int i64 (↑(farN p old (List.length x.l)) : Int))) [cells false 1 (nth [encPacks x]), cells false 2 (nth [encPacks x, encR gl]), cells false 8 fun (a : Nat) => int i64 (old a), cells false 1 (nth [int i64 b.best]), AObj.map (mapE (putE b.es p old (List.length x.l))), cells false 1 (nth [AV.mp 4]), cells false 1 (nth [fn 63 0 (nth []) 2 (nth [ref 2 0, ref 5 0])]), cells false 1 (nth [fz Fz.auto 1 (List.length b.out) fun (i x : Nat) => int i64 (List.getD b.out i 0)]), cells false 8 fun (a : Nat) => int i64 (p a)] g) ∧ 1 ≤ 1 ∧ (∀ (c : Nat), c < 1 → nth [fz Fz.auto 1 (List.length (planL p (List.length x.l - 0))) fun (i x_2 : Nat) => int i64 (List.getD (planL p (List.length x.l - 0)) i 0)] c = over (nth [fz Fz.auto 1 (List.length b.out) fun (i x : Nat) => int i64 (List.getD b.out i 0)]) 0 1 (fun (x_2 : Nat) => fz Fz.auto 1 (List.length (planL p (List.length x.l - 0))) fun (i x_3 : Nat) => int i64 (List.getD (planL p (List.length x.l - 0)) i 0)) c) ∧ 1 ≤ 1 ∧ (∀ (c : Nat), c < 1 → nth [int i64 (↑(farN p old (List.length x.l)) : Int)] c = over (nth [int i64 b.best]) 0 1 (fun (x_2 : Nat) => int i64 (↑(farN p old (List.length x.l)) : Int)) c) ∧ Q AEx.ret (St.mk [(7, AV.bool true)] [cells false 1 (nth [encPacks x]), cells false 2 (nth [encPacks x, encR gl]), cells false 8 fun (a : Nat) => int i64 (old a), cells false 1 (nth [int i64 (↑(farN p old (List.length x.l)) : Int)]), AObj.map (mapE (putE b.es p old (List.length x.l))), cells false 1 (nth [AV.mp 4]), cells false 1 (nth [fn 63 0 (nth []) 2 (nth [ref 2 0, ref 5 0])]), cells false 1 (nth [fz Fz.auto 1 (List.length (planL p (List.length x.l - 0))) fun (i x_2 : Nat) => int i64 (List.getD (planL p (List.length x.l - 0)) i 0)]), cells false 8 fun (a : Nat) => int i64 (p a)] g)) ∧ (((faultOf x gl.l p).fst == 0 && ((faultOf x gl.l p).snd == 0 && true)) = false → Q AEx.ret (St.mk [(7, AV.bool true)] [cells false 1 (nth [encPacks x]), cells false 2 (nth [encPacks x, encR gl]), cells false 8 fun (a : Nat) => int i64 (old a), cells false 1 (nth [int i64 b.best]), AObj.map (mapE b.es), cells false 1 (nth [AV.mp 4]), cells false 1 (nth [fn 63 0 (nth []) 2 (nth [ref 2 0, ref 5 0])]), cells false 1 (nth [fz Fz.auto 1 (List.length b.out) fun (i x : Nat) => int i64 (List.getD b.out i 0)]), cells false 8 fun (a : Nat) => int i64 (p a)] g))) (fun _ => by kernel_rfl) ⟨(by omega), ⟨(by omega), ⟨(fun _ _ => ⟨rfl, (Go.Avm.Pack.c_fault _ _ _ _ _ _ (by omega) (by omega) (by omega) (by omega) (by omega) (by omega) (by omega) (by omega))⟩), ⟨fun c1 => ⟨(by kernel_rfl), ⟨(by omega), ⟨(by omega), ⟨(by omega), ⟨(by omega), ⟨(by omega), ⟨⟨rfl, (does_sub' [8] 9 (fun R g => Go.Avm.Pack.c_CloneA R (p) (List.length x.l - 0) g (by omega) (by omega)) rfl rfl rfl (by exact ⟨⟨rfl, Nat.le_refl _, fun j hj => match j, hj with | 0, _ => (Le.refl _) | 1, _ => (Le.refl _) | 2, _ => (Le.refl _) | 3, _ => (Le.refl _) | 4, _ => (Le.refl _) | 5, _ => (Le.refl _) | 6, _ => (Le.refl _) | 7, _ => (Le.refl _) ⟩, trivial⟩) (by exact ⟨by omega, trivial⟩) (by exact ⟨(Le.refl _), trivial⟩) (by exact le_unren (by exact trivial)) (by exact ⟨LeO.rflc, ⟨LeO.rflc, ⟨LeO.rflc, ⟨LeO.rflc, ⟨rfl, ⟨LeO.rflc, ⟨LeO.rflc, ⟨LeO.rflc, ⟨⟨rfl, Nat.le_refl _, fun j hj => match j, hj with | 0, _ => (Le.refl _) | 1, _ => (Le.refl _) | 2, _ => (Le.refl _) | 3, _ => (Le.refl _) | 4, _ => (Le.refl _) | 5, _ => (Le.refl _) | 6, _ => (Le.refl _) | 7, _ => (Le.refl _) ⟩, trivial⟩⟩⟩⟩⟩⟩⟩⟩⟩))⟩, ⟨(by omega), ⟨(by omega), ⟨(by omega), ⟨⟨rfl, (does_sub' [2, 5, 4] 9 (fun R g => Go.Avm.Pack.c_far R (p) (old) (List.length x.l) (b.es) g (by omega) (by omega) (by omega) (by omega)) rfl rfl rfl (by exact ⟨⟨rfl, Nat.le_refl _, fun j hj => match j, hj with | 0, _ => (Le.refl _) | 1, _ => (Le.refl _) | 2, _ => (Le.refl _) | 3, _ => (Le.refl _) | 4, _ => (Le.refl _) | 5, _ => (Le.refl _) | 6, _ => (Le.refl _) | 7, _ => (Le.refl _) ⟩, ⟨⟨rfl, Nat.le_refl _, fun j hj => match j, hj with | 0, _ => (Le.refl _) ⟩, ⟨rfl, trivial⟩⟩⟩) (by exact ⟨by omega, ⟨by omega, trivial⟩⟩) (by exact ⟨le_ren (by exact ⟨⟨⟨⟨⟨⟨⟨⟨trivial, trivial⟩, trivial⟩, trivial⟩, trivial⟩, trivial⟩, trivial⟩, trivial⟩, trivial⟩), ⟨le_ren (by exact trivial), ⟨(Le.refl _), ⟨(Le.refl _), trivial⟩⟩⟩⟩) (by exact le_unren (by exact trivial)) (by exact ⟨LeO.rflc, ⟨LeO.rflc, ⟨⟨rfl, Nat.le_refl _, fun j hj => match j, hj with | 0, _ => (Le.refl _) | 1, _ => (Le.refl _) | 2, _ => (Le.refl _) | 3, _ => (Le.refl _) | 4, _ => (Le.refl _) | 5, _ => (Le.refl _) | 6, _ => (Le.refl _) | 7, _ => (Le.refl _) ⟩, ⟨LeO.rflc, ⟨rfl, ⟨⟨rfl, Nat.le_refl _, fun j hj => match j, hj with | 0, _ => (Le.refl _) ⟩, ⟨LeO.rflc, ⟨LeO.rflc, ⟨LeO.rflc, trivial⟩⟩⟩⟩⟩⟩⟩⟩⟩))⟩, ⟨(by omega), ⟨(fun c hc => match c, hc with | 0, _ => (by kernel_rfl) ), ⟨(by omega), ⟨(fun c hc => match c, hc with | 0, _ => (by kernel_rfl) ), ?_⟩⟩⟩⟩⟩⟩⟩⟩⟩⟩⟩⟩⟩⟩⟩, fun c1 => ?_⟩⟩⟩⟩
    · exact absurd (show fineB x gl.l p = true from c1) (by rw [hf]; decide)
    · refine (retQ_le (retQ_take' 8 _ _ rfl trivial (by omega) trivial ⟨(fun j hj => match j, hj with | 0, _ => trivial ), ⟨(fun j hj => match j, hj with | 0, _ => trivial | 1, _ => trivial ), ⟨(fun j hj => match j, hj with | 0, _ => trivial | 1, _ => trivial | 2, _ => trivial | 3, _ => trivial | 4, _ => trivial | 5, _ => trivial | 6, _ => trivial | 7, _ => trivial ), ⟨(fun j hj => match j, hj with | 0, _ => trivial ), ⟨(fun j hj => match j, hj with | 0, _ => (show 5 ≤ 8 by omega) ), ⟨(fun j hj => match j, hj with | 0, _ => ⟨trivial, ⟨⟨trivial, (show 3 ≤ 8 by omega)⟩, (show 6 ≤ 8 by omega)⟩⟩ ), ⟨(fun j hj => match j, hj with | 0, _ => trivial ), trivial⟩⟩⟩⟩⟩⟩⟩ (by kernel_rfl) rfl rfl) (Le.refl _))
end Go.Avm.Pack
namespace Go.Avm.Pack
open Go Go.Avm Go.Proofs
open Go.IntKind (i64 u64)
open Go.Avm.AV (int bool any fz fp sl ow ref fn ifc val agg tup)
open Go.Avm.AObj (cells dead)
open Go.Avm.Oc (ret)
set_option maxRecDepth 4000
def wnN (old : Nat → Int) (b : NearS) (p : Nat → Int) (m : Nat) : Bool × NearS := (decide ((farN p old m : Int) < b.best), ⟨putE b.es p old m, b.out, b.best⟩)
def fdN (x : Ix) (gl : List Rng) (old : Nat → Int) (b : NearS) (p : Nat → Int) : Bool × NearS := (true, if fineB x gl p then ⟨putE b.es p old x.l.length, planL p x.l.length, farN p old x.l.length⟩ else b)
def nearP (x : Ix) (gl : List Rng) (old : Nat → Int) : NearS := (eachR x gl (clausesOf x gl) (wnN old) (fdN x gl old) x.l.length ⟨[], [], (x.l.length : Int) + 1⟩ (fun _ => 0)).2
def nearR (x : Ix) (gl : List Rng) (hv : List Int) : List Int × Int × Int :=
  if checkB x gl then if plannedB x hv then if Nat.beq (nearP x gl (planOf hv x.l.length)).out.length 0 then ([], 0, 5) else ((nearP x gl (planOf hv x.l.length)).out, (nearP x gl (planOf hv x.l.length)).best, 0) else ([], 0, 2) else ([], 0, 2)
theorem fit_in {x : Ix} (hx : formedB x = true) {p : Nat → Int} {m : Nat} (h : inQ x p m) (hm : m ≤ x.l.length) : ∀ j, j < m → -100 ≤ p j ∧ p j ≤ 100 := fun j hj => by
  have := h j hj
  have h5 := formed_five hx (show j < x.l.length by omega)
  omega
theorem fit_planned {x : Ix} (hx : formedB x = true) {l : List Int} (h : plannedB x l = true) : fitP (planOf l x.l.length) := fun j hj => by
  by_cases hl : j < x.l.length
  · exact fit_in hx (planned_inP h) (Nat.le_refl _) j hl
  · unfold planOf
    rw [if_neg hl]
    decide
theorem c_Closest (R : Res) (x : Ix) (gl : KL Rng) (hv : KL Int) (hp : List AObj) (g : R.σ) (hs : small x) (hg : gl.l.length < 1000000) :
    Does Try.prog R 22 [encIx x, encR gl, encI hv] hp g (.ret (.tup 3 (nth [encI ⟨(nearR x gl.l hv.l).1, .auto⟩, .int .i64 (nearR x gl.l hv.l).2.1, .int .i64 (nearR x gl.l hv.l).2.2]))) hp g := by
  refine does_any' (fun R g => ?_) (by exact ⟨⟨trivial, trivial⟩, ⟨trivial, ⟨trivial, trivial⟩⟩⟩) R hp g
  cases hck : checkB x gl.l with
  | false =>
    have e : nearR x gl.l hv.l = ([], 0, 2) := by unfold nearR; rw [hck]; rfl
    rw [e]
    refine spec_of_wp (nt := 47) (rs := [.tmp 6, .tmp 7, .tmp 8]) (k0 := 0) (by kernel_rfl) (by kernel_rfl) (by kernel_rfl) rfl ?_
    refine vcQ [] (lkL [(0, [1, 2, 3]), (1, [1, 2, 3, 19]), (2, [6, 7, 8]), (3, [2, 3, 9]), (4, [3, 9, 10, 11])]) (lkL [(1, [(2, ROrc.pcall (int i64 2))]), (3, [(4, ROrc.val (Orc.obj (nth [encPacks x, encR gl])))])]) (fun (Q : AEx → St R.σ → Prop) => 1 ≤ 1 ∧ (∀ (hp : List AObj) (g : R.σ), true = true ∧ Does Try.prog R 11 [encIx x, encR gl] hp g (ret (int i64 2)) hp g) ∧ (true = true → Q AEx.ret (St.mk [(6, fz Fz.nil 0 0 fun (x x_2 : Nat) => any), (7, int i64 0), (8, int i64 2)] [cells false 1 (nth [encPacks x])] g)) ∧ (true = false → 1 ≤ 1 ∧ 2 ≤ 2 ∧ (∀ (c : Nat), c < 2 → nth [encPacks x, encR gl] c = over (nth [fz Fz.nil 0 0 fun (x x_2 : Nat) => any, fz Fz.nil 0 0 fun (x x_2 : Nat) => any]) 0 2 (List.brecOn (motive := fun (x : List AV) => Nat → AV) [encPacks x, encR gl] nth._f) c) ∧ False)) (fun _ => by kernel_rfl) ⟨(by omega), ⟨(fun _ _ => ⟨rfl, (Go.Avm.Pack.c_Check_f _ _ _ _ _ (by omega) (by omega) (by omega))⟩), ⟨fun _ => ?_, fun h => (nomatch h)⟩⟩⟩
    refine (retQ_le (retQ_drop _ _ rfl trivial ⟨⟨⟨trivial, trivial⟩, trivial⟩, trivial⟩ rfl) (Le.tup (fun j hj => match j, hj with | 0, _ => Le.nil_auto | 1, _ => (Le.of_eq (by kernel_rfl)) | 2, _ => (Le.of_eq (by kernel_rfl)) )))
  | true =>
    obtain ⟨hx, hg4, hr⟩ := check_parts hck
    have hgl := check_goals hck
    obtain ⟨hx1, h8⟩ := formed_le hx
    cases hpl : plannedB x hv.l with
    | false =>
      have e : nearR x gl.l hv.l = ([], 0, 2) := by unfold nearR; rw [hck, hpl]; rfl
      rw [e]
      refine spec_of_wp (nt := 47) (rs := [.tmp 6, .tmp 7, .tmp 8]) (k0 := 0) (by kernel_rfl) (by kernel_rfl) (by kernel_rfl) rfl ?_
      refine vcQ [] (lkL [(0, [1, 2, 3]), (1, [1, 2, 3, 19]), (2, [6, 7, 8]), (3, [2, 3, 9]), (4, [3, 9, 10, 11]), (5, [3, 9, 10, 30]), (6, [6, 7, 8]), (7, [3, 9, 10, 12]), (8, [3, 9, 10, 12, 13])]) (lkL [(1, [(2, ROrc.pcall (int i64 0))]), (3, [(4, ROrc.val (Orc.obj (nth [encPacks x, encR gl])))]), (4, [(2, ROrc.pcall (tup 2 (nth [agg 8 fun (x : Nat) => any, AV.bool false]))), (7, ROrc.val (Orc.obj fun (x : Nat) => any))]), (7, [(5, ROrc.val (Orc.obj (nth [int i64 ((↑(List.length x.l) : Int) + 1)])))])]) (fun (Q : AEx → St R.σ → Prop) => 1 ≤ 1 ∧ (∀ (hp : List AObj) (g : R.σ), true = true ∧ Does Try.prog R 11 [encIx x, encR gl] hp g (ret (int i64 0)) hp g) ∧ (false = true → Q AEx.ret (St.mk [(6, fz Fz.nil 0 0 fun (x x_2 : Nat) => any), (7, int i64 0), (8, int i64 2)] [cells false 1 (nth [encPacks x])] g)) ∧ (false = false → 1 ≤ 1 ∧ 2 ≤ 2 ∧ (∀ (c : Nat), c < 2 → nth [encPacks x, encR gl] c = over (nth [fz Fz.nil 0 0 fun (x x_2 : Nat) => any, fz Fz.nil 0 0 fun (x x_2 : Nat) => any]) 0 2 (List.brecOn (motive := fun (x : List AV) => Nat → AV) [encPacks x, encR gl] nth._f) c) ∧ 2 ≤ 2 ∧ (∀ (hp : List AObj) (g : R.σ), true = true ∧ Does Try.prog R 46 [encMkt x gl, encI hv] hp g (ret (tup 2 (nth [agg 8 fun (x : Nat) => any, AV.bool false]))) hp g) ∧ 8 ≤ 8 ∧ (∀ (c : Nat), c < 8 → any = over (nth [int i64 0, int i64 0, int i64 0, int i64 0, int i64 0, int i64 0, int i64 0, int i64 0]) 0 8 (fun (x : Nat) => any) c) ∧ (true = true → Q AEx.ret (St.mk [(6, fz Fz.nil 0 0 fun (x x_3 : Nat) => any), (7, int i64 0), (8, int i64 2)] [cells false 1 (nth [encPacks x]), cells false 2 (nth [encPacks x, encR gl]), cells false 8 fun (x : Nat) => any] g)) ∧ (true = false → 1 ≤ 1 ∧ (-9223372036854775808 ≤ (↑(List.length x.l) : Int) + 1 ∧ (↑(List.length x.l) : Int) + 1 ≤ 9223372036854775807) ∧ 1 ≤ 1 ∧ (∀ (c : Nat), c < 1 → nth [int i64 ((↑(List.length x.l) : Int) + 1)] c = over (fun (a : Nat) => int i64 0) 0 1 (fun (x_3 : Nat) => int i64 ((↑(List.length x.l) : Int) + 1)) c) ∧ False))) (fun _ => by kernel_rfl) ⟨(by omega), ⟨(fun _ _ => ⟨rfl, (Go.Avm.Pack.c_Check_t _ _ _ _ _ (by omega) (by omega) (by omega))⟩), ⟨fun h => (nomatch h), fun _ => ⟨(by omega), ⟨(by omega), ⟨(fun c hc => match c, hc with | 0, _ => (by kernel_rfl) | 1, _ => (by kernel_rfl) ), ⟨(by omega), ⟨(fun _ _ => ⟨rfl, (Go.Avm.Pack.c_planned_f _ _ _ _ _ _ (by omega) (by omega) (by omega))⟩), ⟨(by omega), ⟨(fun c hc => match c, hc with | 0, _ => (by kernel_rfl) | 1, _ => (by kernel_rfl) | 2, _ => (by kernel_rfl) | 3, _ => (by kernel_rfl) | 4, _ => (by kernel_rfl) | 5, _ => (by kernel_rfl) | 6, _ => (by kernel_rfl) | 7, _ => (by kernel_rfl) ), ⟨fun _ => ?_, fun h => (nomatch h)⟩⟩⟩⟩⟩⟩⟩⟩⟩⟩⟩
      refine (retQ_le (retQ_drop _ _ rfl trivial ⟨⟨⟨trivial, trivial⟩, trivial⟩, trivial⟩ rfl) (Le.tup (fun j hj => match j, hj with | 0, _ => Le.nil_auto | 1, _ => (Le.of_eq (by kernel_rfl)) | 2, _ => (Le.of_eq (by kernel_rfl)) )))
    | true =>
      obtain ⟨old, hold⟩ : ∃ old, planOf hv.l x.l.length = old := ⟨_, rfl⟩
      have ho : fitP old := by rw [← hold]; exact fit_planned hx hpl
      have hl : ∀ c ∈ clausesOf x gl.l, thereC x gl.l c := fun c hc => there_all hc
      have hll : (clausesOf x gl.l).length < 1000000 := cls_len hx hg4
      have hc : Does Try.prog R 53 [encMkt x gl, encC ⟨clausesOf x gl.l, .auto⟩, .fn 64 0 (nth []) 2 (nth [.ref 6 0, .ref 3 0]), .fn 65 0 (nth []) 5 (nth [.ref 1 0, .ref 0 0, .ref 6 0, .ref 7 0, .ref 3 0])] (hpC x gl old ⟨[], [], (x.l.length : Int) + 1⟩) g (.ret (.tup 0 (nth []))) (hpC x gl old (nearP x gl.l old)) g :=
        each_fn x gl ⟨clausesOf x gl.l, .auto⟩ hx hgl hl hll (fun b => okE b.es old) (wnN old) (fdN x gl.l old) R (hpC x gl old) (fun _ => g) (fun _ _ => rfl) (by kernel_rfl) (by kernel_rfl)
          (fun b p m he hp hm => Closest2 R x gl old b p m g (by omega) (fit_in hx hp hm) ho he)
          (fun b p he hp => Closest3 R x gl old b p g (fit_in hx hp (Nat.le_refl _)) ho he hx1 h8 hp (formed_wfN hx hp) (formed_wfB hx hp) (formed_smallN hx hp) (formed_smallB hx hp) hg hgl)
          (fun b p m he hp hm => okE_put he (fit_in hx hp hm) ho) (fun b p he hp => by
            show okE (if _ then _ else _ : NearS).es old
            split
            · exact okE_put he (fit_in hx hp (Nat.le_refl _)) ho
            · exact he) _ (fun e he => absurd he (by simp))
      rw [← hold] at hc
      have hc : Does Try.prog R 53 [encMkt x gl, encC ⟨clausesOf x gl.l, .auto⟩, .fn 64 0 (nth []) 2 (nth [.ref 6 0, .ref 3 0]), .fn 65 0 (nth []) 5 (nth [.ref 1 0, .ref 0 0, .ref 6 0, .ref 7 0, .ref 3 0])]
          [.cells false 1 (nth [encPacks x]), .cells false 2 (nth [encPacks x, encR gl]), .cells false 8 (fun a => .int .i64 (planOf hv.l x.l.length a)), .cells false 1 (nth [.int .i64 ((x.l.length : Int) + 1)]), .map [], .cells false 1 (nth [.mp 4]), .cells false 1 (nth [.fn 63 0 (nth []) 2 (nth [.ref 2 0, .ref 5 0])]), .cells false 1 (fun _ => .fz .nil 0 0 (fun _ _ => .any))] g (.ret (.tup 0 (nth []))) (hpC x gl (planOf hv.l x.l.length) (nearP x gl.l (planOf hv.l x.l.length))) g :=
        does_pre hc ⟨LeO.rflc, LeO.rflc, LeO.rflc, LeO.rflc, rfl, LeO.rflc, LeO.rflc, LeO.box rfl Le.nil_auto, trivial⟩
      have ha : nearR x gl.l hv.l = if Nat.beq (nearP x gl.l (planOf hv.l x.l.length)).out.length 0 then ([], 0, 5) else ((nearP x gl.l (planOf hv.l x.l.length)).out, (nearP x gl.l (planOf hv.l x.l.length)).best, 0) := by unfold nearR; rw [hck, hpl]; rfl
      obtain ⟨nb, hnb⟩ : ∃ nb, nearP x gl.l (planOf hv.l x.l.length) = nb := ⟨_, rfl⟩
      rw [hnb] at hc ha
      rw [ha]
      cases hb : Nat.beq nb.out.length 0 with
      | true =>
        rw [if_pos rfl]
        refine spec_of_wp (nt := 47) (rs := [.tmp 6, .tmp 7, .tmp 8]) (k0 := 0) (by kernel_rfl) (by kernel_rfl) (by kernel_rfl) rfl ?_
        refine vcQ [] (lkL [(0, [1, 2, 3]), (1, [1, 2, 3, 19]), (2, [6, 7, 8]), (3, [2, 3, 9]), (4, [3, 9, 10, 11]), (5, [3, 9, 10, 30]), (6, [6, 7, 8]), (7, [3, 9, 10, 12]), (8, [3, 9, 10, 12, 13]), (9, [3, 9, 12, 14]), (10, [3, 9, 12, 14, 15]), (11, [12, 15]), (12, [12, 15, 44]), (13, [6, 7, 8]), (14, [6, 7, 8])]) (lkL [(1, [(2, ROrc.pcall (int i64 0))]), (3, [(4, ROrc.val (Orc.obj (nth [encPacks x, encR gl])))]), (4, [(2, ROrc.pcall (tup 2 (nth [encPlan (planOf hv.l (List.length x.l)), AV.bool true]))), (7, ROrc.val (Orc.obj fun (j : Nat) => int i64 (planOf hv.l (List.length x.l) j)))]), (7, [(5, ROrc.val (Orc.obj (nth [int i64 ((↑(List.length x.l) : Int) + 1)])))]), (8, [(0, ROrc.own (AV.mp 4) [cells false 1 (nth [encPacks x]), cells false 2 (nth [encPacks x, encR gl]), cells false 8 fun (a : Nat) => int i64 (planOf hv.l (List.length x.l) a), cells false 1 (nth [int i64 ((↑(List.length x.l) : Int) + 1)]), AObj.map []] g), (2, ROrc.val (Orc.obj (nth [AV.mp 4])))]), (9, [(2, ROrc.val (Orc.obj (nth [fn 63 0 (nth []) 2 (nth [ref 2 0, ref 5 0])])))]), (11, [(2, ROrc.pcall (encC (KL.mk (clausesOf x gl.l) Fz.auto))), (5, ROrc.callS (tup 0 (nth [])) [(3, cells false 1 (nth [int i64 nb.best])), (4, AObj.map (mapE nb.es)), (7, cells false 1 (nth [encI (KL.mk nb.out Fz.auto)]))] g)])]) (fun (Q : AEx → St R.σ → Prop) => 1 ≤ 1 ∧ (∀ (hp : List AObj) (g : R.σ), true = true ∧ Does Try.prog R 11 [encIx x, encR gl] hp g (ret (int i64 0)) hp g) ∧ (false = true → Q AEx.ret (St.mk [(6, fz Fz.nil 0 0 fun (x x_2 : Nat) => any), (7, int i64 0), (8, int i64 2)] [cells false 1 (nth [encPacks x])] g)) ∧ (false = false → 1 ≤ 1 ∧ 2 ≤ 2 ∧ (∀ (c : Nat), c < 2 → nth [encPacks x, encR gl] c = over (nth [fz Fz.nil 0 0 fun (x x_2 : Nat) => any, fz Fz.nil 0 0 fun (x x_2 : Nat) => any]) 0 2 (List.brecOn (motive := fun (x : List AV) => Nat → AV) [encPacks x, encR gl] nth._f) c) ∧ 2 ≤ 2 ∧ (∀ (hp : List AObj) (g : R.σ), true = true ∧ Does Try.prog R 46 [encMkt x gl, encI hv] hp g (ret (tup 2 (nth [encPlan (planOf hv.l (List.length x.l)), AV.bool true]))) hp g) ∧ 8 ≤ 8 ∧ (∀ (c : Nat), c < 8 → int i64 (planOf hv.l (List.length x.l) c) = over (nth [int i64 0, int i64 0, int i64 0, int i64 0, int i64 0, int i64 0, int i64 0, int i64 0]) 0 8 (fun (j : Nat) => int i64 (planOf hv.l (List.length x.l) j)) c) ∧ (false = true → Q AEx.ret (St.mk [(6, fz Fz.nil 0 0 fun (x x_3 : Nat) => any), (7, int i64 0), (8, int i64 2)] [cells false 1 (nth [encPacks x]), cells false 2 (nth [encPacks x, encR gl]), cells false 8 fun (j : Nat) => int i64 (planOf hv.l (List.length x.l) j)] g)) ∧ (false = false → 1 ≤ 1 ∧ (-9223372036854775808 ≤ (↑(List.length x.l) : Int) + 1 ∧ (↑(List.length x.l) : Int) + 1 ≤ 9223372036854775807) ∧ 1 ≤ 1 ∧ (∀ (c : Nat), c < 1 → nth [int i64 ((↑(List.length x.l) : Int) + 1)] c = over (fun (a : Nat) => int i64 0) 0 1 (fun (x_3 : Nat) => int i64 ((↑(List.length x.l) : Int) + 1)) c) ∧ OpOk Try.prog R (Oper.mk (some 35) (Op.makeMap 101 none) 101 "plan.go:148" #[] none) (evO [] [(3, ref 0 0), (9, ref 1 0), (10, ref 2 0), (12, ref 3 0)] []) [cells false 1 (nth [encPacks x]), cells false 2 (nth [encPacks x, encR gl]), cells false 8 fun (j : Nat) => int i64 (planOf hv.l (List.length x.l) j), cells false 1 (nth [int i64 ((↑(List.length x.l) : Int) + 1)])] g (AV.mp 4) [cells false 1 (nth [encPacks x]), cells false 2 (nth [encPacks x, encR gl]), cells false 8 fun (a : Nat) => int i64 (planOf hv.l (List.length x.l) a), cells false 1 (nth [int i64 ((↑(List.length x.l) : Int) + 1)]), AObj.map []] g ∧ 1 ≤ 1 ∧ (∀ (c : Nat), c < 1 → nth [AV.mp 4] c = over (fun (a : Nat) => AV.nilm) 0 1 (fun (x : Nat) => AV.mp 4) c) ∧ 1 ≤ 1 ∧ (∀ (c : Nat), c < 1 → nth [fn 63 0 (nth []) 2 (nth [ref 2 0, ref 5 0])] c = over (fun (a : Nat) => AV.nilf) 0 1 (fun (x : Nat) => fn 63 0 (nth []) 2 (nth [ref 2 0, ref 5 0])) c) ∧ Tables.follows Try.prog.toTables Departure.mixedOrders = true ∧ 2 ≤ 2 ∧ 2 ≤ 2 ∧ (∀ (hp : List AObj) (g : R.σ), true = true ∧ Does Try.prog R 54 [encMkt x gl] hp g (ret (fz Fz.auto 4 (List.length (clausesOf x gl.l)) fun (i : Nat) => clC (List.getD (clausesOf x gl.l) i default))) hp g) ∧ (true = true ∧ Does Try.prog R 53 [encMkt x gl, fz Fz.auto 4 (List.length (clausesOf x gl.l)) fun (i : Nat) => clC (List.getD (clausesOf x gl.l) i default), fn 64 0 (nth []) 2 (nth [ref 6 0, ref 3 0]), fn 65 0 (nth []) 5 (nth [ref 1 0, ref 0 0, ref 6 0, ref 7 0, ref 3 0])] [cells false 1 (nth [encPacks x]), cells false 2 (nth [encPacks x, encR gl]), cells false 8 fun (a : Nat) => int i64 (planOf hv.l (List.length x.l) a), cells false 1 (nth [int i64 ((↑(List.length x.l) : Int) + 1)]), AObj.map [], cells false 1 (nth [AV.mp 4]), cells false 1 (nth [fn 63 0 (nth []) 2 (nth [ref 2 0, ref 5 0])]), cells false 1 fun (a : Nat) => fz Fz.nil 0 0 fun (x x_3 : Nat) => any] g (ret (tup 0 (nth []))) [cells false 1 (nth [encPacks x]), cells false 2 (nth [encPacks x, encR gl]), cells false 8 fun (a : Nat) => int i64 (planOf hv.l (List.length x.l) a), cells false 1 (nth [int i64 nb.best]), AObj.map (mapE nb.es), cells false 1 (nth [AV.mp 4]), cells false 1 (nth [fn 63 0 (nth []) 2 (nth [ref 2 0, ref 5 0])]), cells false 1 (nth [fz Fz.auto 1 (List.length nb.out) fun (i x : Nat) => int i64 (List.getD nb.out i 0)])] g) ∧ 1 ≤ 1 ∧ (Nat.beq (List.length nb.out) 0 = true → Q AEx.ret (St.mk [(6, fz Fz.nil 0 0 fun (x x_4 : Nat) => any), (7, int i64 0), (8, int i64 5)] [cells false 1 (nth [encPacks x]), cells false 2 (nth [encPacks x, encR gl]), cells false 8 fun (a : Nat) => int i64 (planOf hv.l (List.length x.l) a), cells false 1 (nth [int i64 nb.best]), AObj.map (mapE nb.es), cells false 1 (nth [AV.mp 4]), cells false 1 (nth [fn 63 0 (nth []) 2 (nth [ref 2 0, ref 5 0])]), cells false 1 (nth [fz Fz.auto 1 (List.length nb.out) fun (i x : Nat) => int i64 (List.getD nb.out i 0)])] g)) ∧ (Nat.beq (List.length nb.out) 0 = false → Tables.follows Try.prog.toTables Departure.mixedOrders = true ∧ 1 ≤ 1 ∧ 1 ≤ 1 ∧ Q AEx.ret (St.mk [(6, fz Fz.auto 1 (List.length nb.out) fun (i x : Nat) => int i64 (List.getD nb.out i 0)), (7, int i64 nb.best), (8, int i64 0)] [cells false 1 (nth [encPacks x]), cells false 2 (nth [encPacks x, encR gl]), cells false 8 fun (a : Nat) => int i64 (planOf hv.l (List.length x.l) a), cells false 1 (nth [int i64 nb.best]), AObj.map (mapE nb.es), cells false 1 (nth [AV.mp 4]), cells false 1 (nth [fn 63 0 (nth []) 2 (nth [ref 2 0, ref 5 0])]), cells false 1 (nth [fz Fz.auto 1 (List.length nb.out) fun (i x : Nat) => int i64 (List.getD nb.out i 0)])] g))))) (fun _ => by kernel_rfl) ⟨(by omega), ⟨(fun _ _ => ⟨rfl, (Go.Avm.Pack.c_Check_t _ _ _ _ _ (by omega) (by omega) (by omega))⟩), ⟨fun h => (nomatch h), fun _ => ⟨(by omega), ⟨(by omega), ⟨(fun c hc => match c, hc with | 0, _ => (by kernel_rfl) | 1, _ => (by kernel_rfl) ), ⟨(by omega), ⟨(fun _ _ => ⟨rfl, (Go.Avm.Pack.c_planned_t _ _ _ _ _ _ (by omega) (by omega) (by omega))⟩), ⟨(by omega), ⟨(fun c hc => match c, hc with | 0, _ => (by kernel_rfl) | 1, _ => (by kernel_rfl) | 2, _ => (by kernel_rfl) | 3, _ => (by kernel_rfl) | 4, _ => (by kernel_rfl) | 5, _ => (by kernel_rfl) | 6, _ => (by kernel_rfl) | 7, _ => (by kernel_rfl) ), ⟨fun h => (nomatch h), fun _ => ⟨(by omega), ⟨(by omega), ⟨(by omega), ⟨(fun c hc => match c, hc with | 0, _ => (by kernel_rfl) ), ⟨?_, ⟨(by omega), ⟨(fun c hc => match c, hc with | 0, _ => (by kernel_rfl) ), ⟨(by omega), ⟨(fun c hc => match c, hc with | 0, _ => (by kernel_rfl) ), ⟨(by kernel_rfl), ⟨(by omega), ⟨(by omega), ⟨(fun _ _ => ⟨rfl, (Go.Avm.Pack.c_clausesF _ _ _ _ _ (by omega) (by omega) (by omega))⟩), ⟨⟨rfl, (hc)⟩, ⟨(by omega), ⟨fun _ => ?_, fun hcc => (nomatch (hb.symm.trans hcc))⟩⟩⟩⟩⟩⟩⟩⟩⟩⟩⟩⟩⟩⟩⟩⟩⟩⟩⟩⟩⟩⟩⟩⟩⟩⟩⟩
        · exact opOk_makeMap (t := 101) rfl
        · refine (retQ_le (retQ_drop _ _ rfl trivial ⟨⟨⟨trivial, trivial⟩, trivial⟩, trivial⟩ rfl) (Le.tup (fun j hj => match j, hj with | 0, _ => Le.nil_auto | 1, _ => (Le.of_eq (by kernel_rfl)) | 2, _ => (Le.of_eq (by kernel_rfl)) )))
      | false =>
        rw [if_neg (by decide)]
        refine spec_of_wp (nt := 47) (rs := [.tmp 6, .tmp 7, .tmp 8]) (k0 := 0) (by kernel_rfl) (by kernel_rfl) (by kernel_rfl) rfl ?_
        refine vcQ [] (lkL [(0, [1, 2, 3]), (1, [1, 2, 3, 19]), (2, [6, 7, 8]), (3, [2, 3, 9]), (4, [3, 9, 10, 11]), (5, [3, 9, 10, 30]), (6, [6, 7, 8]), (7, [3, 9, 10, 12]), (8, [3, 9, 10, 12, 13]), (9, [3, 9, 12, 14]), (10, [3, 9, 12, 14, 15]), (11, [12, 15]), (12, [12, 15, 44]), (13, [6, 7, 8]), (14, [6, 7, 8])]) (lkL [(1, [(2, ROrc.pcall (int i64 0))]), (3, [(4, ROrc.val (Orc.obj (nth [encPacks x, encR gl])))]), (4, [(2, ROrc.pcall (tup 2 (nth [encPlan (planOf hv.l (List.length x.l)), AV.bool true]))), (7, ROrc.val (Orc.obj fun (j : Nat) => int i64 (planOf hv.l (List.length x.l) j)))]), (7, [(5, ROrc.val (Orc.obj (nth [int i64 ((↑(List.length x.l) : Int) + 1)])))]), (8, [(0, ROrc.own (AV.mp 4) [cells false 1 (nth [encPacks x]), cells false 2 (nth [encPacks x, encR gl]), cells false 8 fun (a : Nat) => int i64 (planOf hv.l (List.length x.l) a), cells false 1 (nth [int i64 ((↑(List.length x.l) : Int) + 1)]), AObj.map []] g), (2, ROrc.val (Orc.obj (nth [AV.mp 4])))]), (9, [(2, ROrc.val (Orc.obj (nth [fn 63 0 (nth []) 2 (nth [ref 2 0, ref 5 0])])))]), (11, [(2, ROrc.pcall (encC (KL.mk (clausesOf x gl.l) Fz.auto))), (5, ROrc.callS (tup 0 (nth [])) [(3, cells false 1 (nth [int i64 nb.best])), (4, AObj.map (mapE nb.es)), (7, cells false 1 (nth [encI (KL.mk nb.out Fz.auto)]))] g)])]) (fun (Q : AEx → St R.σ → Prop) => 1 ≤ 1 ∧ (∀ (hp : List AObj) (g : R.σ), true = true ∧ Does Try.prog R 11 [encIx x, encR gl] hp g (ret (int i64 0)) hp g) ∧ (false = true → Q AEx.ret (St.mk [(6, fz Fz.nil 0 0 fun (x x_2 : Nat) => any), (7, int i64 0), (8, int i64 2)] [cells false 1 (nth [encPacks x])] g)) ∧ (false = false → 1 ≤ 1 ∧ 2 ≤ 2 ∧ (∀ (c : Nat), c < 2 → nth [encPacks x, encR gl] c = over (nth [fz Fz.nil 0 0 fun (x x_2 : Nat) => any, fz Fz.nil 0 0 fun (x x_2 : Nat) => any]) 0 2 (List.brecOn (motive := fun (x : List AV) => Nat → AV) [encPacks x, encR gl] nth._f) c) ∧ 2 ≤ 2 ∧ (∀ (hp : List AObj) (g : R.σ), true = true ∧ Does Try.prog R 46 [encMkt x gl, encI hv] hp g (ret (tup 2 (nth [encPlan (planOf hv.l (List.length x.l)), AV.bool true]))) hp g) ∧ 8 ≤ 8 ∧ (∀ (c : Nat), c < 8 → int i64 (planOf hv.l (List.length x.l) c) = over (nth [int i64 0, int i64 0, int i64 0, int i64 0, int i64 0, int i64 0, int i64 0, int i64 0]) 0 8 (fun (j : Nat) => int i64 (planOf hv.l (List.length x.l) j)) c) ∧ (false = true → Q AEx.ret (St.mk [(6, fz Fz.nil 0 0 fun (x x_3 : Nat) => any), (7, int i64 0), (8, int i64 2)] [cells false 1 (nth [encPacks x]), cells false 2 (nth [encPacks x, encR gl]), cells false 8 fun (j : Nat) => int i64 (planOf hv.l (List.length x.l) j)] g)) ∧ (false = false → 1 ≤ 1 ∧ (-9223372036854775808 ≤ (↑(List.length x.l) : Int) + 1 ∧ (↑(List.length x.l) : Int) + 1 ≤ 9223372036854775807) ∧ 1 ≤ 1 ∧ (∀ (c : Nat), c < 1 → nth [int i64 ((↑(List.length x.l) : Int) + 1)] c = over (fun (a : Nat) => int i64 0) 0 1 (fun (x_3 : Nat) => int i64 ((↑(List.length x.l) : Int) + 1)) c) ∧ OpOk Try.prog R (Oper.mk (some 35) (Op.makeMap 101 none) 101 "plan.go:148" #[] none) (evO [] [(3, ref 0 0), (9, ref 1 0), (10, ref 2 0), (12, ref 3 0)] []) [cells false 1 (nth [encPacks x]), cells false 2 (nth [encPacks x, encR gl]), cells false 8 fun (j : Nat) => int i64 (planOf hv.l (List.length x.l) j), cells false 1 (nth [int i64 ((↑(List.length x.l) : Int) + 1)])] g (AV.mp 4) [cells false 1 (nth [encPacks x]), cells false 2 (nth [encPacks x, encR gl]), cells false 8 fun (a : Nat) => int i64 (planOf hv.l (List.length x.l) a), cells false 1 (nth [int i64 ((↑(List.length x.l) : Int) + 1)]), AObj.map []] g ∧ 1 ≤ 1 ∧ (∀ (c : Nat), c < 1 → nth [AV.mp 4] c = over (fun (a : Nat) => AV.nilm) 0 1 (fun (x : Nat) => AV.mp 4) c) ∧ 1 ≤ 1 ∧ (∀ (c : Nat), c < 1 → nth [fn 63 0 (nth []) 2 (nth [ref 2 0, ref 5 0])] c = over (fun (a : Nat) => AV.nilf) 0 1 (fun (x : Nat) => fn 63 0 (nth []) 2 (nth [ref 2 0, ref 5 0])) c) ∧ Tables.follows Try.prog.toTables Departure.mixedOrders = true ∧ 2 ≤ 2 ∧ 2 ≤ 2 ∧ (∀ (hp : List AObj) (g : R.σ), true = true ∧ Does Try.prog R 54 [encMkt x gl] hp g (ret (fz Fz.auto 4 (List.length (clausesOf x gl.l)) fun (i : Nat) => clC (List.getD (clausesOf x gl.l) i default))) hp g) ∧ (true = true ∧ Does Try.prog R 53 [encMkt x gl, fz Fz.auto 4 (List.length (clausesOf x gl.l)) fun (i : Nat) => clC (List.getD (clausesOf x gl.l) i default), fn 64 0 (nth []) 2 (nth [ref 6 0, ref 3 0]), fn 65 0 (nth []) 5 (nth [ref 1 0, ref 0 0, ref 6 0, ref 7 0, ref 3 0])] [cells false 1 (nth [encPacks x]), cells false 2 (nth [encPacks x, encR gl]), cells false 8 fun (a : Nat) => int i64 (planOf hv.l (List.length x.l) a), cells false 1 (nth [int i64 ((↑(List.length x.l) : Int) + 1)]), AObj.map [], cells false 1 (nth [AV.mp 4]), cells false 1 (nth [fn 63 0 (nth []) 2 (nth [ref 2 0, ref 5 0])]), cells false 1 fun (a : Nat) => fz Fz.nil 0 0 fun (x x_3 : Nat) => any] g (ret (tup 0 (nth []))) [cells false 1 (nth [encPacks x]), cells false 2 (nth [encPacks x, encR gl]), cells false 8 fun (a : Nat) => int i64 (planOf hv.l (List.length x.l) a), cells false 1 (nth [int i64 nb.best]), AObj.map (mapE nb.es), cells false 1 (nth [AV.mp 4]), cells false 1 (nth [fn 63 0 (nth []) 2 (nth [ref 2 0, ref 5 0])]), cells false 1 (nth [fz Fz.auto 1 (List.length nb.out) fun (i x : Nat) => int i64 (List.getD nb.out i 0)])] g) ∧ 1 ≤ 1 ∧ (Nat.beq (List.length nb.out) 0 = true → Q AEx.ret (St.mk [(6, fz Fz.nil 0 0 fun (x x_4 : Nat) => any), (7, int i64 0), (8, int i64 5)] [cells false 1 (nth [encPacks x]), cells false 2 (nth [encPacks x, encR gl]), cells false 8 fun (a : Nat) => int i64 (planOf hv.l (List.length x.l) a), cells false 1 (nth [int i64 nb.best]), AObj.map (mapE nb.es), cells false 1 (nth [AV.mp 4]), cells false 1 (nth [fn 63 0 (nth []) 2 (nth [ref 2 0, ref 5 0])]), cells false 1 (nth [fz Fz.auto 1 (List.length nb.out) fun (i x : Nat) => int i64 (List.getD nb.out i 0)])] g)) ∧ (Nat.beq (List.length nb.out) 0 = false → Tables.follows Try.prog.toTables Departure.mixedOrders = true ∧ 1 ≤ 1 ∧ 1 ≤ 1 ∧ Q AEx.ret (St.mk [(6, fz Fz.auto 1 (List.length nb.out) fun (i x : Nat) => int i64 (List.getD nb.out i 0)), (7, int i64 nb.best), (8, int i64 0)] [cells false 1 (nth [encPacks x]), cells false 2 (nth [encPacks x, encR gl]), cells false 8 fun (a : Nat) => int i64 (planOf hv.l (List.length x.l) a), cells false 1 (nth [int i64 nb.best]), AObj.map (mapE nb.es), cells false 1 (nth [AV.mp 4]), cells false 1 (nth [fn 63 0 (nth []) 2 (nth [ref 2 0, ref 5 0])]), cells false 1 (nth [fz Fz.auto 1 (List.length nb.out) fun (i x : Nat) => int i64 (List.getD nb.out i 0)])] g))))) (fun _ => by kernel_rfl) ⟨(by omega), ⟨(fun _ _ => ⟨rfl, (Go.Avm.Pack.c_Check_t _ _ _ _ _ (by omega) (by omega) (by omega))⟩), ⟨fun h => (nomatch h), fun _ => ⟨(by omega), ⟨(by omega), ⟨(fun c hc => match c, hc with | 0, _ => (by kernel_rfl) | 1, _ => (by kernel_rfl) ), ⟨(by omega), ⟨(fun _ _ => ⟨rfl, (Go.Avm.Pack.c_planned_t _ _ _ _ _ _ (by omega) (by omega) (by omega))⟩), ⟨(by omega), ⟨(fun c hc => match c, hc with | 0, _ => (by kernel_rfl) | 1, _ => (by kernel_rfl) | 2, _ => (by kernel_rfl) | 3, _ => (by kernel_rfl) | 4, _ => (by kernel_rfl) | 5, _ => (by kernel_rfl) | 6, _ => (by kernel_rfl) | 7, _ => (by kernel_rfl) ), ⟨fun h => (nomatch h), fun _ => ⟨(by omega), ⟨(by omega), ⟨(by omega), ⟨(fun c hc => match c, hc with | 0, _ => (by kernel_rfl) ), ⟨?_, ⟨(by omega), ⟨(fun c hc => match c, hc with | 0, _ => (by kernel_rfl) ), ⟨(by omega), ⟨(fun c hc => match c, hc with | 0, _ => (by kernel_rfl) ), ⟨(by kernel_rfl), ⟨(by omega), ⟨(by omega), ⟨(fun _ _ => ⟨rfl, (Go.Avm.Pack.c_clausesF _ _ _ _ _ (by omega) (by omega) (by omega))⟩), ⟨⟨rfl, (hc)⟩, ⟨(by omega), ⟨fun hcc => (nomatch (hb.symm.trans hcc)), fun _ => ⟨(by kernel_rfl), ⟨(by omega), ⟨(by omega), ?_⟩⟩⟩⟩⟩⟩⟩⟩⟩⟩⟩⟩⟩⟩⟩⟩⟩⟩⟩⟩⟩⟩⟩⟩⟩⟩⟩⟩⟩⟩
        · exact opOk_makeMap (t := 101) rfl
        · refine (retQ_le (retQ_drop _ _ rfl trivial ⟨⟨⟨trivial, trivial⟩, trivial⟩, trivial⟩ rfl) (Le.of_eq (by kernel_rfl)))
end Go.Avm.Pack
namespace Go.Avm.Pack
open Go Go.Avm Go.Proofs
open Go.IntKind (i64 u64)
open Go.Avm.AV (int bool any fz fp sl ow ref fn ifc val agg tup)
open Go.Avm.AObj (cells dead)
open Go.Avm.Oc (ret)
set_option maxRecDepth 4000

theorem planOf_set {pl : List Int} {m : Nat} {v : Int} (hm : m < pl.length) : updP (planOf pl m) m v = planOf (pl.set m v) (m + 1) := by
  funext j
  unfold updP planOf
  by_cases h : j = m
  · subst h
    rw [if_pos rfl, if_pos (by omega), set_getD hm, if_pos rfl]
  · rw [if_neg h]
    by_cases h2 : j < m
    · rw [if_pos h2, if_pos (by omega), set_getD (by omega), if_neg h]
    · rw [if_neg h2, if_neg (by omega)]
theorem planOf_zero (pl : List Int) : planOf pl 0 = fun _ => 0 := by
  funext j; unfold planOf; rw [if_neg (by omega)]
theorem metB_congr {p q : Nat → Int} {r : Rng} {m : Nat} (h : ∀ j, j < m → p j = q j) (h0 : 0 ≤ r.pack) (hm : r.pack < m) : metB p r = metB q r := by
  unfold metB; rw [h _ (by omega)]
theorem formed_need {x : Ix} (hx : formedB x = true) {i k w : Nat} (hi : i < x.l.length) (hk : k < (x.l.getD i default).l.length) : (w < ((x.l.getD i default).l.getD k default).needs.l.length → 0 ≤ (((x.l.getD i default).l.getD k default).needs.l.getD w default).pack) ∧ (w < ((x.l.getD i default).l.getD k default).bars.l.length → 0 ≤ (((x.l.getD i default).l.getD k default).bars.l.getD w default).pack) := by
  have h := formed_rel hx hi hk
  rw [relB_eq, Bool.and_eq_true] at h
  unfold rangesB at h
  rw [Bool.and_eq_true, Bool.and_eq_true] at h
  refine ⟨fun hw => ?_, fun hw => ?_⟩
  · have := List.all_eq_true.1 h.1.2 _ (getD_mem _ default hw)
    unfold otherB at this
    rw [Bool.and_eq_true] at this
    exact (ranged_pack this.1).1
  · have := List.all_eq_true.1 h.2.2 _ (getD_mem _ default hw)
    unfold otherB at this
    rw [Bool.and_eq_true] at this
    exact (ranged_pack this.1).1
theorem broken_congr {x : Ix} {gl : List Rng} (hx : formedB x = true) (hgl : ∀ r ∈ gl, 0 ≤ r.pack ∧ r.pack < x.l.length) {c : Clause} (hc : thereC x gl c) {p q : Nat → Int} {m : Nat} (h : ∀ j, j < m → p j = q j) : brokenB x gl c p m = brokenB x gl c q m := by
  have key : ∀ r : Rng, 0 ≤ r.pack → (decide (r.pack < (m : Int)) && !(metB p r)) = (decide (r.pack < (m : Int)) && !(metB q r)) ∧ (decide (r.pack < (m : Int)) && metB p r) = (decide (r.pack < (m : Int)) && metB q r) := fun r h0 => by
    by_cases hm : r.pack < (m : Int)
    · rw [metB_congr h h0 hm]; exact ⟨rfl, rfl⟩
    · rw [decide_eq_false hm]; exact ⟨rfl, rfl⟩
  unfold brokenB
  by_cases h1 : c.pack = -1
  · rw [if_pos h1, if_pos h1]
    rcases hc with hc | hc
    · exact (key _ (hgl _ (getD_mem _ default (by omega))).1).1
    · omega
  · rw [if_neg h1, if_neg h1]
    rcases hc with hc | ⟨c1, c2, c3, c4, c5, c6, c7⟩
    · exact absurd hc.1 h1
    · by_cases h2 : c.pack ≥ (m : Int)
      · rw [if_pos (.inl h2), if_pos (.inl h2)]
      · rw [h _ (by omega)]
        by_cases h3 : q c.pack.toNat ≠ c.rel
        · rw [if_pos (.inr h3), if_pos (.inr h3)]
        · have h3' : ¬ (c.pack ≥ (m : Int) ∨ q c.pack.toNat ≠ c.rel) := fun h => h.elim h2 h3
          rw [if_neg h3', if_neg h3']
          have hn := fun w => formed_need hx (i := c.pack.toNat) (k := c.rel.toNat) (w := w) (by omega) (by omega)
          cases hb : c.bar with
          | true =>
            simp only [if_true]
            exact (key _ ((hn c.which.toNat).2 (by have := c6 hb; omega))).2
          | false =>
            simp only [Bool.false_eq_true, if_false]
            exact (key _ ((hn c.which.toNat).1 (by have := c7 hb; omega))).1
theorem any_congr' {α : Type} {p q : α → Bool} : ∀ {l : List α}, (∀ a ∈ l, p a = q a) → l.any p = l.any q
  | [], _ => rfl
  | a :: l, h => by
    rw [List.any_cons, List.any_cons, h a List.mem_cons_self, any_congr' (fun b hb => h b (List.mem_cons_of_mem _ hb))]
theorem brk_plan {x : Ix} {gl : List Rng} (hx : formedB x = true) (hgl : ∀ r ∈ gl, 0 ≤ r.pack ∧ r.pack < x.l.length) {l : List Clause} (hl : ∀ c ∈ l, thereC x gl c) {pl : List Int} {m n : Nat} (hm : m ≤ n) : brkB x gl l (planOf pl m) m = brkB x gl l (planOf pl n) m :=
  any_congr' (fun c hc => broken_congr hx hgl (hl c hc) (fun j hj => by unfold planOf; rw [if_pos hj, if_pos (by omega)]))
theorem planL_planOf {pl : List Int} {n : Nat} (h : pl.length = n) : planL (planOf pl n) n = pl := by
  refine List.ext_getElem (by rw [planL_len, h]) (fun i h1 h2 => ?_)
  have e1 := planL_getD (p := planOf pl n) (n := n) (i := i) (by omega)
  rw [planOf_lt (by omega)] at e1
  rw [List.getD_eq_getElem?_getD, List.getD_eq_getElem?_getD, List.getElem?_eq_getElem h1, List.getElem?_eq_getElem h2] at e1
  exact e1
theorem look_ne {x : Ix} {gl : List Rng} {p : Nat → Int} {f i : Int} (h : lookR x gl p = some (f, i)) : f ≠ 0 := by
  unfold lookR at h
  split at h
  · cases h; decide
  · split at h
    · cases h; decide
    · split at h
      · cases h; decide
      · split at h
        · cases h; decide
        · cases h
theorem fine_iff (x : Ix) (gl : List Rng) (p : Nat → Int) : fineB x gl p = ((faultOf x gl p).1 == 0) := by
  unfold fineB faultOf
  cases h : lookR x gl p with
  | none => rfl
  | some y =>
    obtain ⟨f, i⟩ := y
    have := look_ne h
    show (f == 0 && _) = (f == 0)
    rw [beq_eq_false_iff_ne.2 this]; rfl
end Go.Avm.Pack
namespace Go.Avm.Pack
open Go Go.Avm Go.Proofs
open Go.IntKind (i64 u64)
open Go.Avm.AV (int bool any fz fp sl ow ref fn ifc val agg tup)
open Go.Avm.AObj (cells dead)
open Go.Avm.Oc (ret)
set_option maxRecDepth 4000

theorem first_walk {β : Type} (x : Ix) (gl : List Rng) (l : List Clause) (hx : formedB x = true) (hgl : ∀ r ∈ gl, 0 ≤ r.pack ∧ r.pack < x.l.length) (hl : ∀ c ∈ l, thereC x gl c) (right : Bool) (e : List Int → β) (fd : β → (Nat → Int) → Bool × β)
    (hfd : ∀ pl, pl.length = x.l.length → fd (e []) (planOf pl x.l.length) = if right && !((faultOf x gl (planOf pl x.l.length)).1 == 0) then (true, e []) else (false, e pl)) :
    ∀ (k m : Nat), m + k = x.l.length → ∀ (pl : List Int) (f0 : Int), pl.length = x.l.length →
      eachR x gl l (fun b _ _ => (true, b)) fd k (e []) (planOf pl m) = (Nat.beq (fromR x gl l right [] k ([], f0) pl).1.length 0, e (fromR x gl l right [] k ([], f0) pl).1)
  | 0, m, hm, pl, f0, hpl => by
    have hm : m = x.l.length := by omega
    subst hm
    have h1 := (formed_le hx).1
    unfold eachR fromR
    cases hb : brkB x gl l (planOf pl x.l.length) x.l.length with
    | true => rfl
    | false =>
      simp only [Bool.false_eq_true, if_false, if_true]
      rw [hfd pl hpl]
      cases hr : (right && !((faultOf x gl (planOf pl x.l.length)).1 == 0)) with
      | true => rfl
      | false =>
        have hne : Nat.beq pl.length 0 = false := by
          cases h : pl.length with
          | zero => omega
          | succ n => rfl
        show (false, e pl) = (Nat.beq pl.length 0, e pl)
        rw [hne]
  | k + 1, m, hm, pl, f0, hpl => by
    have em : x.l.length - (k + 1) = m := by omega
    obtain ⟨N, hN⟩ : ∃ N, (x.l.getD m default).l.length = N := ⟨_, rfl⟩
    cases hb : brkB x gl l (planOf pl m) m with
    | true =>
      have hb2 := hb
      rw [brk_plan hx hgl hl (show m ≤ x.l.length by omega)] at hb2
      unfold eachR fromR
      rw [em, hb, hb2]
      rfl
    | false =>
      have hb2 := hb
      rw [brk_plan hx hgl hl (show m ≤ x.l.length by omega)] at hb2
      rw [fromR_succ em hN hb2]
      obtain ⟨S, hS⟩ : ∃ S, runR x gl l right [] k m N pl ([], f0) = S := ⟨_, rfl⟩
      rw [hS]
      obtain ⟨f, hf⟩ : ∃ f : β → Int → Bool × β, f = fun b v => eachR x gl l (fun b _ _ => (true, b)) fd k b (updP (planOf pl m) m v) := ⟨_, rfl⟩
      have e1 : eachR x gl l (fun b _ _ => (true, b)) fd (k + 1) (e []) (planOf pl m) = goN f (itemC N) (N + 1) (e []) := by
        unfold eachR
        rw [em, hb, hN, hf]
        rfl
      rw [e1]
      have hstep : ∀ j f1, f (e []) (itemC N j) = (Nat.beq (fromR x gl l right [] k ([], f1) (pl.set m (itemC N j))).1.length 0, e (fromR x gl l right [] k ([], f1) (pl.set m (itemC N j))).1) := fun j f1 => by
        rw [hf]
        show eachR x gl l _ fd k (e []) (updP (planOf pl m) m (itemC N j)) = _
        rw [planOf_set (by omega)]
        exact first_walk x gl l hx hgl hl right e fd hfd k (m + 1) (by omega) _ f1 (by simpa using hpl)
      have hgt : ∀ s : List Int × Int, s.1 = [] → grdB [] s = true := fun s h => by unfold grdB; rw [h]; rfl
      have hgf : ∀ s : List Int × Int, s.1 ≠ [] → grdB [] s = false := fun s h => by
        unfold grdB
        cases hs : s.1 with
        | nil => exact absurd hs h
        | cons a r => rfl
      have hsucc : ∀ j, S (j + 1) = if grdB [] (S j) then fromR x gl l right [] k (S j) (pl.set m (itemC N j)) else S j := fun j => by
        rw [← hS, runR_succ]; rfl
      have main : ∀ j, ((S j).1 = [] ∧ bK f (itemC N) (e []) j = e [] ∧ ∀ i, i < j → cK f (itemC N) (e []) i = true) ∨
          (∃ i, i < j ∧ (∀ i', i' < i → cK f (itemC N) (e []) i' = true) ∧ cK f (itemC N) (e []) i = false ∧ bK f (itemC N) (e []) (i + 1) = e (S j).1 ∧ (S j).1 ≠ []) := by
        intro j
        induction j with
        | zero => exact .inl ⟨by rw [← hS]; rfl, rfl, fun i hi => absurd hi (by omega)⟩
        | succ j ih =>
          rcases ih with ⟨h1, h2, h3⟩ | ⟨i, h1, h2, h3, h4, h5⟩
          · have es : S j = ([], (S j).2) := by rw [← h1]
            have hS1 : S (j + 1) = fromR x gl l right [] k ([], (S j).2) (pl.set m (itemC N j)) := by
              rw [hsucc, hgt _ h1, if_pos rfl]
              rw [← es]
            have hc : cK f (itemC N) (e []) j = Nat.beq (S (j + 1)).1.length 0 := by
              unfold cK; rw [h2, hstep j (S j).2, ← hS1]
            have hbk : bK f (itemC N) (e []) (j + 1) = e (S (j + 1)).1 := by
              show (f (bK f (itemC N) (e []) j) (itemC N j)).2 = _
              rw [h2, hstep j (S j).2, ← hS1]
            by_cases hn : (S (j + 1)).1 = []
            · refine .inl ⟨hn, by rw [hbk, hn], fun i hi => ?_⟩
              rcases Nat.lt_or_ge i j with h | h
              · exact h3 i h
              · have : i = j := by omega
                subst this
                rw [hc, hn]; rfl
            · refine .inr ⟨j, by omega, h3, ?_, hbk, hn⟩
              rw [hc]
              cases hs : (S (j + 1)).1 with
              | nil => exact absurd hs hn
              | cons a r => rfl
          · have hS1 : S (j + 1) = S j := by rw [hsucc, hgf _ h5]; rfl
            exact .inr ⟨i, by omega, h2, h3, by rw [hS1]; exact h4, by rw [hS1]; exact h5⟩
      rcases main (N + 1) with ⟨h1, h2, h3⟩ | ⟨i, h1, h2, h3, h4, h5⟩
      · rw [goN_all h3, h1, h2]; rfl
      · rw [goN_at h2 h1 h3, h4]
        cases hs : (S (N + 1)).1 with
        | nil => exact absurd hs h5
        | cons a r => rfl
theorem planL_none (x : Ix) : (planL (fun _ => -1) x.l.length).length = x.l.length := planL_len _ _
theorem best_eq {x : Ix} {gl : List Rng} (hx : formedB x = true) (hgl : ∀ r ∈ gl, 0 ≤ r.pack ∧ r.pack < x.l.length) : bestP x gl = (searchR x gl (clausesOf x gl) true []).1 := by
  have h := first_walk x gl (clausesOf x gl) hx hgl (fun c hc => there_all hc) true (fun l => l) (fun b p => (Nat.beq (bestO x gl b p).length 0, bestO x gl b p)) (fun pl hpl => ?_) x.l.length 0 (by omega) (planL (fun _ => -1) x.l.length) 0 (planL_none x)
  · rw [planOf_zero] at h
    unfold bestP searchR
    rw [h]
  · show (Nat.beq (bestO x gl [] (planOf pl x.l.length)).length 0, bestO x gl [] (planOf pl x.l.length)) = _
    unfold bestO
    rw [fine_iff, planL_planOf hpl]
    cases hf : ((faultOf x gl (planOf pl x.l.length)).1 == 0) with
    | true =>
      have h1 := (formed_le hx).1
      have hne : Nat.beq pl.length 0 = false := by
        cases h : pl.length with
        | zero => omega
        | succ n => rfl
      show (Nat.beq pl.length 0, pl) = (false, pl)
      rw [hne]
    | false => rfl
end Go.Avm.Pack
namespace Go.Avm.Pack
open Go Go.Avm Go.Proofs
open Go.IntKind (i64 u64)
open Go.Avm.AV (int bool any fz fp sl ow ref fn ifc val agg tup)
open Go.Avm.AObj (cells dead)
open Go.Avm.Oc (ret)
set_option maxRecDepth 4000

theorem cnt_mono {n : Nat} {p q : Nat → Bool} (h : ∀ j, j < n → p j = true → q j = true) : cntN n p ≤ cntN n q := by
  induction n with
  | zero => exact Nat.le_refl _
  | succ n ih =>
    have := ih (fun j hj => h j (by omega))
    rw [cntN_succ, cntN_succ]
    cases hp : p n with
    | true => rw [h n (by omega) hp]; simp; exact this
    | false => cases q n <;> simp <;> omega
theorem cnt_add {n m : Nat} {p : Nat → Bool} (h : ∀ j, m ≤ j → j < n → p j = false) (hm : m ≤ n) : cntN n p = cntN m p := by
  induction n with
  | zero => rw [show m = 0 by omega]
  | succ n ih =>
    by_cases he : m = n + 1
    · rw [he]
    · rw [cntN_succ, h n (by omega) (by omega), ih (fun j h1 h2 => h j h1 (by omega)) (by omega)]; rfl
theorem far_le {p old : Nat → Int} {m : Nat} (hm : m ≤ 8) : farN p old m ≤ m := by
  unfold farN
  rw [cnt_add (m := m) (fun j h1 h2 => by unfold fillP; rw [if_pos h1]; simp) hm]
  exact cntN_le _ _
theorem far_full {x : Ix} {pl hv : List Int} (h8 : x.l.length ≤ 8) (hpl : pl.length = x.l.length) (hhv : hv.length = x.l.length) : farN (planOf pl x.l.length) (planOf hv x.l.length) x.l.length = diffN pl hv := by
  unfold farN diffN
  rw [cnt_add (m := x.l.length) (fun j h1 h2 => by unfold fillP; rw [if_pos h1]; simp) h8, hpl, hhv, Nat.min_self]
  exact cnt_congr (fun j hj => by unfold fillP; rw [if_neg (by omega), planOf_lt hj, planOf_lt hj])
theorem far_step {pl : List Int} {old : Nat → Int} {m : Nat} {v : Int} (hm : m < pl.length) : farN (planOf pl m) old m ≤ farN (planOf (pl.set m v) (m + 1)) old (m + 1) := by
  unfold farN
  refine cnt_mono (fun j _ h => ?_)
  by_cases hj : j < m
  · have e1 : fillP (planOf pl m) old m j = pl.getD j 0 := by unfold fillP; rw [if_neg (by omega), planOf_lt hj]
    have e2 : fillP (planOf (pl.set m v) (m + 1)) old (m + 1) j = pl.getD j 0 := by unfold fillP; rw [if_neg (by omega), planOf_lt (by omega), set_getD (by omega), if_neg (by omega)]
    rw [e1] at h
    rw [e2]; exact h
  · have e1 : fillP (planOf pl m) old m j = old j := by unfold fillP; rw [if_pos (by omega)]
    rw [e1] at h
    simp at h
theorem prune {x : Ix} {gl : List Rng} {l : List Clause} {right : Bool} {hv : List Int} (h8 : x.l.length ≤ 8) (hhv : hv.length = x.l.length) : ∀ (k m : Nat), m + k = x.l.length → ∀ (pl : List Int) (s : List Int × Int), pl.length = x.l.length → s.1 ≠ [] → s.2 ≤ farN (planOf pl m) (planOf hv x.l.length) m →
    fromR x gl l right hv k s pl = s
  | 0, m, hm, pl, s, hpl, hs, hf => by
    have hm : m = x.l.length := by omega
    subst hm
    rw [far_full h8 hpl hhv] at hf
    have hne : Nat.beq s.1.length 0 = false := by
      cases h : s.1 with
      | nil => exact absurd h hs
      | cons a r => rfl
    unfold fromR
    rw [hne, decide_eq_false (by omega)]
    split
    · rfl
    · split <;> rfl
  | k + 1, m, hm, pl, s, hpl, hs, hf => by
    have em : x.l.length - (k + 1) = m := by omega
    cases hb : brkB x gl l (planOf pl x.l.length) m with
    | true => unfold fromR; rw [em, hb]; rfl
    | false =>
      rw [fromR_succ em rfl hb]
      have : ∀ j, runR x gl l right hv k m (x.l.getD m default).l.length pl s j = s := by
        intro j
        induction j with
        | zero => rfl
        | succ j ih =>
          rw [runR_succ, ih]
          unfold stepR
          split
          · exact prune h8 hhv k (m + 1) (by omega) _ s (by simpa using hpl) hs (Int.le_trans hf (by have := far_step (pl := pl) (old := planOf hv x.l.length) (m := m) (v := itemC (x.l.getD m default).l.length j) (by omega); omega))
          · rfl
      exact this _
def RelN (x : Ix) (b : NearS) (s : List Int × Int) : Prop := b.out = s.1 ∧ b.best = if s.1 = [] then (x.l.length : Int) + 1 else s.2
theorem near_walk (x : Ix) (gl : List Rng) (l : List Clause) (hx : formedB x = true) (hgl : ∀ r ∈ gl, 0 ≤ r.pack ∧ r.pack < x.l.length) (hl : ∀ c ∈ l, thereC x gl c) {hv : List Int} (hhv : hv.length = x.l.length) :
    ∀ (k m : Nat), m + k = x.l.length → ∀ (pl : List Int) (b : NearS) (s : List Int × Int), pl.length = x.l.length → RelN x b s →
      (eachR x gl l (wnN (planOf hv x.l.length)) (fdN x gl (planOf hv x.l.length)) k b (planOf pl m)).1 = true ∧
      RelN x (eachR x gl l (wnN (planOf hv x.l.length)) (fdN x gl (planOf hv x.l.length)) k b (planOf pl m)).2 (fromR x gl l true hv k s pl)
  | 0, m, hm, pl, b, s, hpl, hr => by
    have hm : m = x.l.length := by omega
    subst hm
    obtain ⟨h1, h8⟩ := formed_le hx
    have hfar := far_full h8 hpl hhv
    have hle := far_le (p := planOf pl x.l.length) (old := planOf hv x.l.length) h8
    unfold eachR fromR
    cases hb : brkB x gl l (planOf pl x.l.length) x.l.length with
    | true => exact ⟨rfl, hr⟩
    | false =>
      simp only [Bool.false_eq_true, if_false]
      have hrest : ∀ b' : NearS, b'.out = b.out → b'.best = b.best → RelN x b' s := fun b' e1 e2 => ⟨e1.trans hr.1, e2.trans hr.2⟩
      obtain ⟨r1, r2⟩ := hr
      by_cases hw : (farN (planOf pl x.l.length) (planOf hv x.l.length) x.l.length : Int) < b.best
      · have hwn : (wnN (planOf hv x.l.length) b (planOf pl x.l.length) x.l.length).1 = true := decide_eq_true hw
        rw [hwn]
        simp only [if_true]
        unfold fdN
        rw [fine_iff]
        refine ⟨by trivial, ?_⟩
        cases hf : ((faultOf x gl (planOf pl x.l.length)).1 == 0) with
        | false => exact hrest _ rfl rfl
        | true =>
          simp only [if_true, Bool.not_true, Bool.and_false, Bool.false_eq_true, if_false]
          have hacc : (Nat.beq s.1.length 0 || decide ((diffN pl hv : Int) < s.2)) = true := by
            by_cases hs : s.1 = []
            · rw [hs]; rfl
            · rw [r2, if_neg hs, hfar] at hw
              rw [decide_eq_true hw, Bool.or_true]
          rw [hacc]
          simp only [if_true]
          have hne : pl ≠ [] := fun e => by rw [e] at hpl; simp at hpl; omega
          exact ⟨planL_planOf hpl, by show (_ : Int) = if pl = [] then _ else _; rw [if_neg hne, hfar]⟩
      · have hwn : (wnN (planOf hv x.l.length) b (planOf pl x.l.length) x.l.length).1 = false := decide_eq_false hw
        rw [hwn]
        simp only [Bool.false_eq_true, if_false]
        refine ⟨by trivial, ?_⟩
        have hs : s.1 ≠ [] := fun hs => by rw [r2, if_pos hs] at hw; omega
        have hrej : (Nat.beq s.1.length 0 || decide ((diffN pl hv : Int) < s.2)) = false := by
          rw [r2, if_neg hs, hfar] at hw
          rw [decide_eq_false hw]
          cases h : s.1 with
          | nil => exact absurd h hs
          | cons a r => rfl
        rw [hrej]
        simp only [Bool.false_eq_true, if_false]
        split <;> exact hrest _ rfl rfl
  | k + 1, m, hm, pl, b, s, hpl, hr => by
    obtain ⟨h1, h8⟩ := formed_le hx
    have em : x.l.length - (k + 1) = m := by omega
    obtain ⟨N, hN⟩ : ∃ N, (x.l.getD m default).l.length = N := ⟨_, rfl⟩
    cases hb : brkB x gl l (planOf pl m) m with
    | true =>
      have hb2 := hb
      rw [brk_plan hx hgl hl (show m ≤ x.l.length by omega)] at hb2
      unfold eachR fromR
      rw [em, hb, hb2]
      exact ⟨rfl, hr⟩
    | false =>
      have hb2 := hb
      rw [brk_plan hx hgl hl (show m ≤ x.l.length by omega)] at hb2
      by_cases hw : (farN (planOf pl m) (planOf hv x.l.length) m : Int) < b.best
      · have hwn : (wnN (planOf hv x.l.length) b (planOf pl m) m).1 = true := decide_eq_true hw
        rw [fromR_succ em hN hb2]
        obtain ⟨S, hS⟩ : ∃ S, runR x gl l true hv k m N pl s = S := ⟨_, rfl⟩
        rw [hS]
        obtain ⟨f, hf⟩ : ∃ f : NearS → Int → Bool × NearS, f = fun b v => eachR x gl l (wnN (planOf hv x.l.length)) (fdN x gl (planOf hv x.l.length)) k b (updP (planOf pl m) m v) := ⟨_, rfl⟩
        obtain ⟨b1, hb1⟩ : ∃ b1, (wnN (planOf hv x.l.length) b (planOf pl m) m).2 = b1 := ⟨_, rfl⟩
        have e1 : eachR x gl l (wnN (planOf hv x.l.length)) (fdN x gl (planOf hv x.l.length)) (k + 1) b (planOf pl m) = goN f (itemC N) (N + 1) b1 := by
          unfold eachR
          rw [em, hb, hwn, hN, hf, hb1]
          rfl
        rw [e1]
        have hg : ∀ s : List Int × Int, grdB hv s = true := fun s => by
          unfold grdB
          cases h : hv with
          | nil => rw [h] at hhv; simp at hhv; omega
          | cons a r => rw [show Nat.beq (a :: r).length 0 = false from rfl]; simp
        have main : ∀ j, RelN x (bK f (itemC N) b1 j) (S j) ∧ ∀ i, i < j → cK f (itemC N) b1 i = true := by
          intro j
          induction j with
          | zero => exact ⟨by rw [← hS, ← hb1]; exact hr, fun i hi => absurd hi (by omega)⟩
          | succ j ih =>
            have hst : f (bK f (itemC N) b1 j) (itemC N j) = eachR x gl l (wnN (planOf hv x.l.length)) (fdN x gl (planOf hv x.l.length)) k (bK f (itemC N) b1 j) (planOf (pl.set m (itemC N j)) (m + 1)) := by
              rw [← planOf_set (by omega)]
              conv => lhs; rw [hf]
              rw [hf]
            have h2 := near_walk x gl l hx hgl hl hhv k (m + 1) (by omega) (pl.set m (itemC N j)) (bK f (itemC N) b1 j) (S j) (by simpa using hpl) ih.1
            rw [← hst] at h2
            refine ⟨?_, fun i hi => ?_⟩
            · have : S (j + 1) = fromR x gl l true hv k (S j) (pl.set m (itemC N j)) := by
                rw [← hS, runR_succ, hS]
                unfold stepR
                rw [hg]; rfl
              rw [this]
              exact h2.2
            · rcases Nat.lt_or_ge i j with h | h
              · exact ih.2 i h
              · have : i = j := by omega
                subst this
                exact h2.1
        obtain ⟨m1, m2⟩ := main (N + 1)
        rw [goN_all m2]
        exact ⟨rfl, m1⟩
      · have hwn : (wnN (planOf hv x.l.length) b (planOf pl m) m).1 = false := decide_eq_false hw
        have hle := far_le (p := planOf pl m) (old := planOf hv x.l.length) (m := m) (by omega)
        obtain ⟨r1, r2⟩ := hr
        have hs : s.1 ≠ [] := fun hs => by rw [r2, if_pos hs] at hw; omega
        rw [prune h8 hhv (k + 1) m hm pl s hpl hs (by rw [r2, if_neg hs] at hw; omega)]
        unfold eachR
        rw [em, hb, hwn]
        exact ⟨rfl, r1, r2⟩
theorem near_eq {x : Ix} {gl : List Rng} (hck : checkB x gl = true) {hv : List Int} (hpl : plannedB x hv = true) : nearR x gl hv = rnearR x gl hv := by
  obtain ⟨hx, hg4, _⟩ := check_parts hck
  have hhv := (plannedB_iff.1 hpl).1
  have h := (near_walk x gl (clausesOf x gl) hx (check_goals hck) (fun c hc => there_all hc) hhv x.l.length 0 (by omega) (planL (fun _ => -1) x.l.length) ⟨[], [], (x.l.length : Int) + 1⟩ ([], 0) (planL_none x) ⟨rfl, rfl⟩).2
  rw [planOf_zero] at h
  have h1 : (nearP x gl (planOf hv x.l.length)).out = (searchR x gl (clausesOf x gl) true hv).1 := h.1
  have h2 : (nearP x gl (planOf hv x.l.length)).best = if (searchR x gl (clausesOf x gl) true hv).1 = [] then (x.l.length : Int) + 1 else (searchR x gl (clausesOf x gl) true hv).2 := h.2
  unfold nearR rnearR
  rw [hck, hpl, h1, h2]
  simp only [if_true]
  split
  · rfl
  · rename_i hne
    rw [if_neg (fun e => hne (by rw [e]; rfl))]
end Go.Avm.Pack
