/- Part 4 of the proof: lemmas. -/
import Derived.Test.YthaoambmnjfdlaaM3
namespace Go.Avm.Pack
open Go Go.Avm Go.Proofs
open Go.IntKind (i64 u64)
open Go.Avm.AV (int bool any fz fp sl ow ref fn ifc val agg tup)
open Go.Avm.AObj (cells dead)
open Go.Avm.Oc (ret)
set_option maxRecDepth 4000
def mapE (es : List ((Nat → Int) × Int)) : List (Value × AV) := es.map fun e => (kv e.1, .int .i64 e.2)
def eq8 (a b : Nat → Int) : Bool := (List.range 8).all fun j => a j == b j
theorem eq8_iff {a b : Nat → Int} : eq8 a b = true ↔ kv a = kv b := by
  unfold eq8
  rw [List.all_eq_true]
  constructor
  · intro h
    exact kv_congr (fun j hj => by simpa using h j (by simpa using hj))
  · intro h j hj
    have := kv_inj h j (by simpa using hj)
    simpa using this
def fillP (p old : Nat → Int) (many : Nat) : Nat → Int := fun j => if many ≤ j then old j else p j
def fillU (p old : Nat → Int) (many i : Nat) : Nat → Int := fun j => if many ≤ j ∧ j < i then old j else p j
def farN (p old : Nat → Int) (many : Nat) : Nat := cntN 8 (fun j => fillP p old many j != old j)
def hitB (es : List ((Nat → Int) × Int)) (q : Nat → Int) : Bool := es.any fun e => eq8 e.1 q
def putE (es : List ((Nat → Int) × Int)) (p old : Nat → Int) (many : Nat) : List ((Nat → Int) × Int) := if hitB es (fillP p old many) then es else es ++ [(fillP p old many, (farN p old many : Int))]
def okE (es : List ((Nat → Int) × Int)) (old : Nat → Int) : Prop := ∀ e ∈ es, fitP e.1 ∧ e.2 = (cntN 8 (fun j => e.1 j != old j) : Int)
theorem fit_fill {p old : Nat → Int} {many : Nat} (hp : ∀ j, j < many → -100 ≤ p j ∧ p j ≤ 100) (ho : fitP old) : fitP (fillP p old many) := fun j hj => by
  unfold fillP
  by_cases h : many ≤ j
  · rw [if_pos h]; exact ho j hj
  · rw [if_neg h]; exact hp j (by omega)
theorem okE_put {es : List ((Nat → Int) × Int)} {p old : Nat → Int} {many : Nat} (h : okE es old) (hp : ∀ j, j < many → -100 ≤ p j ∧ p j ≤ 100) (ho : fitP old) : okE (putE es p old many) old := by
  unfold putE
  split
  · exact h
  · intro e he
    rcases List.mem_append.1 he with he | he
    · exact h e he
    · simp at he
      subst he
      exact ⟨fit_fill hp ho, rfl⟩
theorem den_plan {FM : Mem} {ρ : Plc} {q : Nat → Int} {v : Value} (h : Den FM ρ (.agg 8 (fun a => .int .i64 (q a))) v) : v = kv q := by
  obtain ⟨xs, rfl, hl, hx⟩ := h
  have h8 : ∀ j, j < 8 → xs.getD j undef = .int .i64 (q j) := fun j hj => (hx j hj).2
  unfold kv
  congr 1
  refine Array.ext (by rw [hl]; rfl) (fun j h1 h2 => ?_)
  have e : xs[j] = xs.getD j undef := by rw [Array.getD_eq_getD_getElem?, Array.getElem?_eq_getElem h1]; rfl
  rw [e, h8 j (by omega)]
  have h2 : j < 8 := h2
  match j, h2 with
  | 0, _ => rfl
  | 1, _ => rfl
  | 2, _ => rfl
  | 3, _ => rfl
  | 4, _ => rfl
  | 5, _ => rfl
  | 6, _ => rfl
  | 7, _ => rfl
theorem mapE_mem {es : List ((Nat → Int) × Int)} {e : Value × AV} (h : e ∈ mapE es) : ∃ y ∈ es, e = (kv y.1, .int .i64 y.2) := by
  unfold mapE at h
  obtain ⟨y, hy, rfl⟩ := List.mem_map.1 h
  exact ⟨y, hy, rfl⟩
theorem mapE_keys {es : List ((Nat → Int) × Int)} {old : Nat → Int} (h : okE es old) : ∀ e ∈ mapE es, ∃ l, keyOf Try.prog 79 e.1 = some l := fun e he => by
  obtain ⟨y, hy, rfl⟩ := mapE_mem he
  exact key_plan (h y hy).1
theorem cnt_congr {n : Nat} {p q : Nat → Bool} (h : ∀ j, j < n → p j = q j) : cntN n p = cntN n q := by
  induction n with
  | zero => rfl
  | succ n ih => rw [cntN_succ, cntN_succ, ih (fun j hj => h j (by omega)), h n (by omega)]
def hpM (old : Nat → Int) (es : List ((Nat → Int) × Int)) : List AObj := [.cells false 8 (fun a => .int .i64 (old a)), .cells false 1 (nth [.mp 2]), .map (mapE es)]
theorem far_hit (R : Res) (p old : Nat → Int) (many : Nat) (es : List ((Nat → Int) × Int)) (g : R.σ) (hm : many ≤ 8) (hp : ∀ j, j < many → -100 ≤ p j ∧ p j ≤ 100) (ho : fitP old) (he : okE es old) (hh : hitB es (fillP p old many) = true) :
    Does Try.prog R 63 [encPlan p, .int .i64 many, .ref 0 0, .ref 1 0] (hpM old es) g (.ret (.int .i64 (farN p old many))) (hpM old es) g := by
  refine spec_of_wp (nt := 46) (rs := [.tmp 6]) (k0 := 3) (by kernel_rfl) (by kernel_rfl) (by kernel_rfl) rfl ?_
  refine vcQ [] (lkL [(0, [1, 2, 3, 4]), (1, [2, 3, 4, 7])]) (fun _ => []) (fun (Q : AEx → St R.σ → Prop) => Wp Try.prog R 46 3 Rd.top (bodyOf Try.prog 63) [1, 0, 1, 0] (contQ Try.prog R 46 3 Rd.top (bodyOf Try.prog 63) Q [Kont.blk 0, Kont.seq [1, 1]]) (St.mk [(2, ref 0 0), (3, ref 1 0), (4, ref 3 0), (7, int i64 (↑many : Int))] [cells false 8 fun (a : Nat) => int i64 (old a), cells false 1 (nth [AV.mp 2]), AObj.map (mapE es), cells false 8 fun (a : Nat) => int i64 (p a)] g)) (fun _ => by kernel_rfl) (?_)
  refine (wp_loop (by kernel_rfl) (fun (i : Nat) => ⟨[(2, ref 0 0), (3, ref 1 0), (4, ref 3 0), (7, .int .i64 i)], [.cells false 8 (fun a => .int .i64 (old a)), .cells false 1 (nth [.mp 2]), .map (mapE es), .cells false 8 (fun a => .int .i64 (fillU p old many i a))], g⟩) (fun (i : Nat) => (many ≤ i ∧ i ≤ 8)) (fun (i : Nat) => (8 - i)) many (to_le ⟨(Le.refl _), ⟨(Le.refl _), ⟨(Le.refl _), ⟨(Le.refl _), trivial⟩⟩⟩⟩ ⟨LeO.rflc, ⟨LeO.rflc, ⟨rfl, ⟨(LeO.cells (fun j hj => ?_)), trivial⟩⟩⟩⟩ rfl) ?_ (fun i hi => ?_))
  · show AV.int .i64 (p j) = AV.int .i64 (if _ then _ else _)
    rw [if_neg (by omega)]
  · omega
  · refine vcQ [[1, 1]] (lkL [(2, [2, 3, 4, 7, 13]), (4, [2, 3, 4, 7]), (3, [2, 3, 4, 7])]) (fun _ => []) (fun (Q : AEx → St R.σ → Prop) => (decide ((↑i : Int) < 8) = true → (0 ≤ (↑i : Int) ∧ (↑i : Int) < (↑8 : Int)) ∧ i + 1 ≤ 8 ∧ (0 ≤ (↑i : Int) ∧ (↑i : Int) < (↑8 : Int)) ∧ i + 1 ≤ 8 ∧ (-9223372036854775808 ≤ (↑i : Int) + 1 ∧ (↑i : Int) + 1 ≤ 9223372036854775807) ∧ Q AEx.normal (St.mk [(2, ref 0 0), (3, ref 1 0), (4, ref 3 0), (7, int i64 ((↑i : Int) + 1))] [cells false 8 fun (a : Nat) => int i64 (old a), cells false 1 (nth [AV.mp 2]), AObj.map (mapE es), cells false 8 (over (fun (a : Nat) => int i64 (fillU p old many i a)) i 1 fun (x : Nat) => int i64 (old i))] g)) ∧ (decide ((↑i : Int) < 8) = false → Q (AEx.exit 0) (St.mk [(2, ref 0 0), (3, ref 1 0), (4, ref 3 0), (7, int i64 (↑i : Int)), (13, AV.bool (decide ((↑i : Int) < 8)))] [cells false 8 fun (a : Nat) => int i64 (old a), cells false 1 (nth [AV.mp 2]), AObj.map (mapE es), cells false 8 fun (a : Nat) => int i64 (fillU p old many i a)] g))) (fun _ => by kernel_rfl) ⟨fun c1 => have c1 : (↑i : Int) < 8 := (of_decide_eq_true c1); ⟨(by omega), ⟨(by omega), ⟨(by omega), ⟨(by omega), ⟨(by omega), ?_⟩⟩⟩⟩⟩, fun c1 => have c1 : ¬(↑i : Int) < 8 := (of_decide_eq_false c1); ?_⟩
    · refine (next_round (i + 1) (to_le ⟨(Le.refl _), ⟨(Le.refl _), ⟨(Le.refl _), ⟨(Le.of_eq (by kernel_rfl)), trivial⟩⟩⟩⟩ ⟨LeO.rflc, ⟨LeO.rflc, ⟨rfl, ⟨(LeO.cells (fun j hj => ?_)), trivial⟩⟩⟩⟩ rfl) ?_ ?_)
      · rw [over_eq]
        by_cases h : j = i
        · subst h
          rw [if_pos (by omega)]
          show AV.int .i64 _ = AV.int .i64 (if _ then _ else _)
          rw [if_pos (by omega)]
        · rw [if_neg (by omega)]
          show AV.int .i64 (if _ then _ else _) = AV.int .i64 (if _ then _ else _)
          by_cases h2 : many ≤ j ∧ j < i
          · rw [if_pos h2, if_pos (by omega)]
          · rw [if_neg h2, if_neg (by omega)]
      · omega
      · omega
    · have e8 : i = 8 := by omega
      refine ⟨_, To.refl _, (wp_to (s' := ⟨[(2, ref 0 0), (3, ref 1 0), (4, ref 3 0), (7, int i64 (↑i : Int)), (13, AV.bool (decide ((↑i : Int) < 8)))], [.cells false 8 (fun a => .int .i64 (old a)), .cells false 1 (nth [.mp 2]), .map (mapE es), .cells false 8 (fun a => .int .i64 (fillP p old many a))], g⟩) (to_le ⟨(Le.refl _), ⟨(Le.refl _), ⟨(Le.refl _), ⟨(Le.refl _), ⟨(Le.refl _), trivial⟩⟩⟩⟩⟩ ⟨LeO.rflc, ⟨LeO.rflc, ⟨rfl, ⟨(LeO.cells (fun j hj => ?_)), trivial⟩⟩⟩⟩ rfl) ?_)⟩
      · subst e8
        show AV.int .i64 (if _ then _ else _) = AV.int .i64 (if _ then _ else _)
        by_cases h2 : many ≤ j
        · rw [if_pos h2, if_pos (by omega)]
        · rw [if_neg h2, if_neg (by omega)]
      · refine vcQ [] (lkL [(5, [2, 3, 4, 8, 9]), (6, [2, 3, 4, 8, 27]), (7, [6]), (8, [2, 3, 4, 8, 29])]) (lkL [(5, [(2, ROrc.own (tup 2 (nth [int i64 (↑(farN p old many) : Int), AV.bool true])) [cells false 8 fun (a : Nat) => int i64 (old a), cells false 1 (nth [AV.mp 2]), AObj.map (mapE es), cells false 8 fun (a : Nat) => int i64 (fillP p old many a)] g)])]) (fun (Q : AEx → St R.σ → Prop) => 1 ≤ 1 ∧ 8 ≤ 8 ∧ OpOk Try.prog R (Oper.mk (some 24) (Op.lookup 101 (Operand.tmp 22) (Operand.tmp 23) true) 102 "plan.go:153" #[Edge.mk 0 Ground.data, Edge.mk 1 Ground.data] none) (evO [Row.mk (some 23) none (encPlan (fillP p old many)) false (some []) [3], Row.mk (some 22) none (AV.mp 2) false (some []) [1]] [(2, ref 0 0), (3, ref 1 0), (4, ref 3 0), (7, int i64 (↑i : Int)), (13, AV.bool (decide ((↑i : Int) < 8)))] []) [cells false 8 fun (a : Nat) => int i64 (old a), cells false 1 (nth [AV.mp 2]), AObj.map (mapE es), cells false 8 fun (a : Nat) => int i64 (fillP p old many a)] g (tup 2 (nth [int i64 (↑(farN p old many) : Int), AV.bool true])) [cells false 8 fun (a : Nat) => int i64 (old a), cells false 1 (nth [AV.mp 2]), AObj.map (mapE es), cells false 8 fun (a : Nat) => int i64 (fillP p old many a)] g ∧ (true = true → Q AEx.ret (St.mk [(6, int i64 (↑(farN p old many) : Int))] [cells false 8 fun (a : Nat) => int i64 (old a), cells false 1 (nth [AV.mp 2]), AObj.map (mapE es), cells false 8 fun (a : Nat) => int i64 (fillP p old many a)] g)) ∧ (true = false → Wp Try.prog R 46 3 Rd.top (bodyOf Try.prog 63) [1, 1, 1, 1, 0, 1, 0] (contQ Try.prog R 46 3 Rd.top (bodyOf Try.prog 63) Q [Kont.blk 2, Kont.seq [1, 1, 1, 1, 1]]) (St.mk [(2, ref 0 0), (3, ref 1 0), (4, ref 3 0), (8, int i64 (↑(farN p old many) : Int)), (29, int i64 0)] [cells false 8 fun (a : Nat) => int i64 (old a), cells false 1 (nth [AV.mp 2]), AObj.map (mapE es), cells false 8 fun (a : Nat) => int i64 (fillP p old many a)] g))) (fun _ => by kernel_rfl) ⟨(by omega), ⟨(by omega), ⟨?_, ⟨fun _ => ?_, fun h => (nomatch h)⟩⟩⟩⟩
        · refine opOk_look_hit (t := 101) (kt := 79) (vt := 3) (m := .tmp 22) (x := .tmp 23) (ob := 2) (es := mapE es) (kv := kv (fillP p old many)) (d := .int .i64 (farN p old many)) rfl (by kernel_rfl) plan_keyed rfl rfl (fun FM ρ v h => den_plan h) (key_plan (fit_fill hp ho)) (mapE_keys he) ?_ ?_
          · obtain ⟨e, h1, h2⟩ := List.any_eq_true.1 hh
            exact ⟨(kv e.1, .int .i64 e.2), List.mem_map.2 ⟨e, h1, rfl⟩, eq8_iff.1 h2⟩
          · intro e h1 h2
            obtain ⟨y, hy, rfl⟩ := mapE_mem h1
            show AV.int .i64 _ = AV.int .i64 _
            rw [(he y hy).2]
            unfold farN
            rw [cnt_congr (fun j hj => by rw [kv_inj h2 j hj])]
        · refine (retQ_le (retQ_take' 3 _ _ rfl trivial (by omega) trivial ⟨(fun j hj => match j, hj with | 0, _ => trivial | 1, _ => trivial | 2, _ => trivial | 3, _ => trivial | 4, _ => trivial | 5, _ => trivial | 6, _ => trivial | 7, _ => trivial ), ⟨(fun j hj => match j, hj with | 0, _ => (show 3 ≤ 3 by omega) ), trivial⟩⟩ (by kernel_rfl) rfl rfl) (Le.refl _))
theorem tyInt : ∃ ti, tyOf Try.prog 3 = some ti ∧ mkv ti.agg ti.size ti.zero = .int .i64 0 := by
  have h : (match tyOf Try.prog 3 with | some ti => mkv ti.agg ti.size ti.zero | none => .any) = .int .i64 0 := by kernel_rfl
  cases hx : tyOf Try.prog 3 with
  | none => rw [hx] at h; cases h
  | some ti => rw [hx] at h; exact ⟨ti, rfl, h⟩
theorem far_miss (R : Res) (p old : Nat → Int) (many : Nat) (es : List ((Nat → Int) × Int)) (g : R.σ) (hm : many ≤ 8) (hp : ∀ j, j < many → -100 ≤ p j ∧ p j ≤ 100) (ho : fitP old) (he : okE es old) (hh : hitB es (fillP p old many) = false) :
    Does Try.prog R 63 [encPlan p, .int .i64 many, .ref 0 0, .ref 1 0] (hpM old es) g (.ret (.int .i64 (farN p old many))) [.cells false 8 (fun a => .int .i64 (old a)), .cells false 1 (nth [.mp 2]), .map (mapE es ++ [(kv (fillP p old many), .int .i64 (farN p old many))])] g := by
  refine spec_of_wp (nt := 46) (rs := [.tmp 6]) (k0 := 3) (by kernel_rfl) (by kernel_rfl) (by kernel_rfl) rfl ?_
  refine vcQ [] (lkL [(0, [1, 2, 3, 4]), (1, [2, 3, 4, 7])]) (fun _ => []) (fun (Q : AEx → St R.σ → Prop) => Wp Try.prog R 46 3 Rd.top (bodyOf Try.prog 63) [1, 0, 1, 0] (contQ Try.prog R 46 3 Rd.top (bodyOf Try.prog 63) Q [Kont.blk 0, Kont.seq [1, 1]]) (St.mk [(2, ref 0 0), (3, ref 1 0), (4, ref 3 0), (7, int i64 (↑many : Int))] [cells false 8 fun (a : Nat) => int i64 (old a), cells false 1 (nth [AV.mp 2]), AObj.map (mapE es), cells false 8 fun (a : Nat) => int i64 (p a)] g)) (fun _ => by kernel_rfl) (?_)
  refine (wp_loop (by kernel_rfl) (fun (i : Nat) => ⟨[(2, ref 0 0), (3, ref 1 0), (4, ref 3 0), (7, .int .i64 i)], [.cells false 8 (fun a => .int .i64 (old a)), .cells false 1 (nth [.mp 2]), .map (mapE es), .cells false 8 (fun a => .int .i64 (fillU p old many i a))], g⟩) (fun (i : Nat) => (many ≤ i ∧ i ≤ 8)) (fun (i : Nat) => (8 - i)) many (to_le ⟨(Le.refl _), ⟨(Le.refl _), ⟨(Le.refl _), ⟨(Le.refl _), trivial⟩⟩⟩⟩ ⟨LeO.rflc, ⟨LeO.rflc, ⟨rfl, ⟨(LeO.cells (fun j hj => ?_)), trivial⟩⟩⟩⟩ rfl) ?_ (fun i hi => ?_))
  · show AV.int .i64 (p j) = AV.int .i64 (if _ then _ else _)
    rw [if_neg (by omega)]
  · omega
  · refine vcQ [[1, 1]] (lkL [(2, [2, 3, 4, 7, 13]), (4, [2, 3, 4, 7]), (3, [2, 3, 4, 7])]) (fun _ => []) (fun (Q : AEx → St R.σ → Prop) => (decide ((↑i : Int) < 8) = true → (0 ≤ (↑i : Int) ∧ (↑i : Int) < (↑8 : Int)) ∧ i + 1 ≤ 8 ∧ (0 ≤ (↑i : Int) ∧ (↑i : Int) < (↑8 : Int)) ∧ i + 1 ≤ 8 ∧ (-9223372036854775808 ≤ (↑i : Int) + 1 ∧ (↑i : Int) + 1 ≤ 9223372036854775807) ∧ Q AEx.normal (St.mk [(2, ref 0 0), (3, ref 1 0), (4, ref 3 0), (7, int i64 ((↑i : Int) + 1))] [cells false 8 fun (a : Nat) => int i64 (old a), cells false 1 (nth [AV.mp 2]), AObj.map (mapE es), cells false 8 (over (fun (a : Nat) => int i64 (fillU p old many i a)) i 1 fun (x : Nat) => int i64 (old i))] g)) ∧ (decide ((↑i : Int) < 8) = false → Q (AEx.exit 0) (St.mk [(2, ref 0 0), (3, ref 1 0), (4, ref 3 0), (7, int i64 (↑i : Int)), (13, AV.bool (decide ((↑i : Int) < 8)))] [cells false 8 fun (a : Nat) => int i64 (old a), cells false 1 (nth [AV.mp 2]), AObj.map (mapE es), cells false 8 fun (a : Nat) => int i64 (fillU p old many i a)] g))) (fun _ => by kernel_rfl) ⟨fun c1 => have c1 : (↑i : Int) < 8 := (of_decide_eq_true c1); ⟨(by omega), ⟨(by omega), ⟨(by omega), ⟨(by omega), ⟨(by omega), ?_⟩⟩⟩⟩⟩, fun c1 => have c1 : ¬(↑i : Int) < 8 := (of_decide_eq_false c1); ?_⟩
    · refine (next_round (i + 1) (to_le ⟨(Le.refl _), ⟨(Le.refl _), ⟨(Le.refl _), ⟨(Le.of_eq (by kernel_rfl)), trivial⟩⟩⟩⟩ ⟨LeO.rflc, ⟨LeO.rflc, ⟨rfl, ⟨(LeO.cells (fun j hj => ?_)), trivial⟩⟩⟩⟩ rfl) ?_ ?_)
      · rw [over_eq]
        by_cases h : j = i
        · subst h
          rw [if_pos (by omega)]
          show AV.int .i64 _ = AV.int .i64 (if _ then _ else _)
          rw [if_pos (by omega)]
        · rw [if_neg (by omega)]
          show AV.int .i64 (if _ then _ else _) = AV.int .i64 (if _ then _ else _)
          by_cases h2 : many ≤ j ∧ j < i
          · rw [if_pos h2, if_pos (by omega)]
          · rw [if_neg h2, if_neg (by omega)]
      · omega
      · omega
    · have e8 : i = 8 := by omega
      refine ⟨_, To.refl _, (wp_to (s' := ⟨[(2, ref 0 0), (3, ref 1 0), (4, ref 3 0), (7, int i64 (↑i : Int)), (13, AV.bool (decide ((↑i : Int) < 8)))], [.cells false 8 (fun a => .int .i64 (old a)), .cells false 1 (nth [.mp 2]), .map (mapE es), .cells false 8 (fun a => .int .i64 (fillP p old many a))], g⟩) (to_le ⟨(Le.refl _), ⟨(Le.refl _), ⟨(Le.refl _), ⟨(Le.refl _), ⟨(Le.refl _), trivial⟩⟩⟩⟩⟩ ⟨LeO.rflc, ⟨LeO.rflc, ⟨rfl, ⟨(LeO.cells (fun j hj => ?_)), trivial⟩⟩⟩⟩ rfl) ?_)⟩
      · subst e8
        show AV.int .i64 (if _ then _ else _) = AV.int .i64 (if _ then _ else _)
        by_cases h2 : many ≤ j
        · rw [if_pos h2, if_pos (by omega)]
        · rw [if_neg h2, if_neg (by omega)]
      · have hno : ∀ e ∈ mapE es, e.1 ≠ kv (fillP p old many) := fun e h1 h2 => by
          obtain ⟨y, hy, rfl⟩ := mapE_mem h1
          have : hitB es (fillP p old many) = true := List.any_eq_true.2 ⟨y, hy, eq8_iff.2 h2⟩
          rw [hh] at this; cases this
        refine vcQ [] (lkL [(5, [2, 3, 4, 8, 9]), (6, [2, 3, 4, 8, 27]), (7, [6]), (8, [2, 3, 4, 8, 29])]) (lkL [(5, [(2, ROrc.own (tup 2 (nth [int i64 0, AV.bool false])) [cells false 8 fun (a : Nat) => int i64 (old a), cells false 1 (nth [AV.mp 2]), AObj.map (mapE es), cells false 8 fun (a : Nat) => int i64 (fillP p old many a)] g)])]) (fun (Q : AEx → St R.σ → Prop) => 1 ≤ 1 ∧ 8 ≤ 8 ∧ OpOk Try.prog R (Oper.mk (some 24) (Op.lookup 101 (Operand.tmp 22) (Operand.tmp 23) true) 102 "plan.go:153" #[Edge.mk 0 Ground.data, Edge.mk 1 Ground.data] none) (evO [Row.mk (some 23) none (encPlan (fillP p old many)) false (some []) [3], Row.mk (some 22) none (AV.mp 2) false (some []) [1]] [(2, ref 0 0), (3, ref 1 0), (4, ref 3 0), (7, int i64 (↑i : Int)), (13, AV.bool (decide ((↑i : Int) < 8)))] []) [cells false 8 fun (a : Nat) => int i64 (old a), cells false 1 (nth [AV.mp 2]), AObj.map (mapE es), cells false 8 fun (a : Nat) => int i64 (fillP p old many a)] g (tup 2 (nth [int i64 0, AV.bool false])) [cells false 8 fun (a : Nat) => int i64 (old a), cells false 1 (nth [AV.mp 2]), AObj.map (mapE es), cells false 8 fun (a : Nat) => int i64 (fillP p old many a)] g ∧ (false = true → Q AEx.ret (St.mk [(6, int i64 0)] [cells false 8 fun (a : Nat) => int i64 (old a), cells false 1 (nth [AV.mp 2]), AObj.map (mapE es), cells false 8 fun (a : Nat) => int i64 (fillP p old many a)] g)) ∧ (false = false → Wp Try.prog R 46 3 Rd.top (bodyOf Try.prog 63) [1, 1, 1, 1, 0, 1, 0] (contQ Try.prog R 46 3 Rd.top (bodyOf Try.prog 63) Q [Kont.blk 2, Kont.seq [1, 1, 1, 1, 1]]) (St.mk [(2, ref 0 0), (3, ref 1 0), (4, ref 3 0), (8, int i64 0), (29, int i64 0)] [cells false 8 fun (a : Nat) => int i64 (old a), cells false 1 (nth [AV.mp 2]), AObj.map (mapE es), cells false 8 fun (a : Nat) => int i64 (fillP p old many a)] g))) (fun _ => by kernel_rfl) ⟨(by omega), ⟨(by omega), ⟨?_, ⟨fun h => (nomatch h), fun _ => ?_⟩⟩⟩⟩
        · obtain ⟨ti, h1, h2⟩ := tyInt
          exact opOk_look_miss' (t := 101) (kt := 79) (vt := 3) (m := .tmp 22) (x := .tmp 23) (ob := 2) (es := mapE es) (kv := kv (fillP p old many)) (ti := ti) rfl (by kernel_rfl) plan_keyed h1 h2 rfl rfl (fun FM ρ v h => den_plan h) (key_plan (fit_fill hp ho)) (mapE_keys he) hno
        · refine (wp_loop (by kernel_rfl) (fun (k : Nat) => ⟨[(2, ref 0 0), (3, ref 1 0), (4, ref 3 0), (8, .int .i64 (cntN k (fun j => fillP p old many j != old j))), (29, .int .i64 k)], [cells false 8 fun (a : Nat) => int i64 (old a), cells false 1 (nth [AV.mp 2]), AObj.map (mapE es), cells false 8 fun (a : Nat) => int i64 (fillP p old many a)], g⟩) (fun (k : Nat) => (k ≤ 8)) (fun (k : Nat) => (8 - k)) 0 (to_fr ⟨(Le.refl _), ⟨(Le.refl _), ⟨(Le.refl _), ⟨(Le.of_eq (by kernel_rfl)), ⟨(Le.of_eq (by kernel_rfl)), trivial⟩⟩⟩⟩⟩ rfl rfl) ?_ (fun k hi => ?_))
          · omega
          · have hk := cntN_le k (fun j => fillP p old many j != old j)
            refine vcQ [[1, 1, 1, 1, 1]] (lkL [(9, [2, 3, 4, 8, 29, 30]), (10, [2, 3, 4, 8, 10, 29]), (11, [2, 3, 4, 8, 29, 38]), (12, [2, 3, 4, 8, 29]), (13, [2, 3, 4, 8, 29])]) (fun _ => []) (fun (Q : AEx → St R.σ → Prop) => (decide ((↑k : Int) < 8) = true → Tables.follows Try.prog.toTables Departure.mixedOrders = true ∧ (0 ≤ (↑k : Int) ∧ (↑k : Int) < (↑8 : Int)) ∧ k + 1 ≤ 8 ∧ (0 ≤ (↑k : Int) ∧ (↑k : Int) < (↑8 : Int)) ∧ k + 1 ≤ 8 ∧ ((fillP p old many k != old k) = true → (-9223372036854775808 ≤ (↑(cntN k fun (j : Nat) => fillP p old many j != old j) : Int) + 1 ∧ (↑(cntN k fun (j : Nat) => fillP p old many j != old j) : Int) + 1 ≤ 9223372036854775807) ∧ (-9223372036854775808 ≤ (↑k : Int) + 1 ∧ (↑k : Int) + 1 ≤ 9223372036854775807) ∧ Q AEx.normal (St.mk [(2, ref 0 0), (3, ref 1 0), (4, ref 3 0), (8, int i64 ((↑(cntN k fun (j : Nat) => fillP p old many j != old j) : Int) + 1)), (29, int i64 ((↑k : Int) + 1))] [cells false 8 fun (a : Nat) => int i64 (old a), cells false 1 (nth [AV.mp 2]), AObj.map (mapE es), cells false 8 fun (a : Nat) => int i64 (fillP p old many a)] g)) ∧ ((fillP p old many k != old k) = false → (-9223372036854775808 ≤ (↑k : Int) + 1 ∧ (↑k : Int) + 1 ≤ 9223372036854775807) ∧ Q AEx.normal (St.mk [(2, ref 0 0), (3, ref 1 0), (4, ref 3 0), (8, int i64 (↑(cntN k fun (j : Nat) => fillP p old many j != old j) : Int)), (29, int i64 ((↑k : Int) + 1))] [cells false 8 fun (a : Nat) => int i64 (old a), cells false 1 (nth [AV.mp 2]), AObj.map (mapE es), cells false 8 fun (a : Nat) => int i64 (fillP p old many a)] g))) ∧ (decide ((↑k : Int) < 8) = false → Q (AEx.exit 2) (St.mk [(2, ref 0 0), (3, ref 1 0), (4, ref 3 0), (8, int i64 (↑(cntN k fun (j : Nat) => fillP p old many j != old j) : Int)), (29, int i64 (↑k : Int)), (30, AV.bool (decide ((↑k : Int) < 8)))] [cells false 8 fun (a : Nat) => int i64 (old a), cells false 1 (nth [AV.mp 2]), AObj.map (mapE es), cells false 8 fun (a : Nat) => int i64 (fillP p old many a)] g))) (fun _ => by kernel_rfl) ⟨fun c1 => have c1 : (↑k : Int) < 8 := (of_decide_eq_true c1); ⟨(by kernel_rfl), ⟨(by omega), ⟨(by omega), ⟨(by omega), ⟨(by omega), ⟨fun c2 => have c2 : ¬fillP p old many k = old k := (bne_iff_ne.mp c2); ⟨(by omega), ⟨(by omega), ?_⟩⟩, fun c2 => have c2 : fillP p old many k = old k := (bne_eq_false_iff_eq.mp c2); ⟨(by omega), ?_⟩⟩⟩⟩⟩⟩⟩, fun c1 => have c1 : ¬(↑k : Int) < 8 := (of_decide_eq_false c1); ?_⟩
            · refine (next_round (k + 1) (to_fr ⟨(Le.refl _), ⟨(Le.refl _), ⟨(Le.refl _), ⟨(Le.of_eq ?_), ⟨(Le.of_eq (by kernel_rfl)), trivial⟩⟩⟩⟩⟩ rfl rfl) ?_ ?_)
              · show AV.int .i64 _ = AV.int .i64 _
                rw [cntN_succ, if_pos (by simpa using c2)]
                congr 1
              · omega
              · omega
            · refine (next_round (k + 1) (to_fr ⟨(Le.refl _), ⟨(Le.refl _), ⟨(Le.refl _), ⟨(Le.of_eq ?_), ⟨(Le.of_eq (by kernel_rfl)), trivial⟩⟩⟩⟩⟩ rfl rfl) ?_ ?_)
              · show AV.int .i64 _ = AV.int .i64 _
                rw [cntN_succ, if_neg (by simpa using c2)]
                congr 1
              · omega
              · omega
            · have ek : k = 8 := by omega
              subst ek
              refine ⟨_, To.refl _, vcQ [] (lkL [(14, [8]), (15, [6])]) (lkL [(14, [(3, ROrc.own any [cells false 8 fun (a : Nat) => int i64 (old a), cells false 1 (nth [AV.mp 2]), AObj.map (mapE es ++ [(kv (fillP p old many), int i64 (↑(farN p old many) : Int))]), cells false 8 fun (a : Nat) => int i64 (fillP p old many a)] g)])]) (fun (Q : AEx → St R.σ → Prop) => 1 ≤ 1 ∧ 8 ≤ 8 ∧ OpOk Try.prog R (Oper.mk none (Op.mapUpdate 101 (Operand.tmp 42) (Operand.tmp 43) (Operand.tmp 44)) 0 "plan.go:162" #[Edge.mk 0 Ground.data, Edge.mk 1 Ground.data, Edge.mk 2 Ground.data, Edge.mk 0 Ground.phase, Edge.mk 1 Ground.phase, Edge.mk 2 Ground.phase] none) (evO [Row.mk (some 44) none (int i64 (↑(cntN 8 fun (j : Nat) => fillP p old many j != old j) : Int)) false (some []) [], Row.mk (some 43) none (encPlan (fillP p old many)) false (some []) [3], Row.mk (some 42) none (AV.mp 2) false (some []) [1]] [(2, ref 0 0), (3, ref 1 0), (4, ref 3 0), (8, int i64 (↑(cntN 8 fun (j : Nat) => fillP p old many j != old j) : Int)), (29, int i64 (↑8 : Int)), (30, AV.bool false)] []) [cells false 8 fun (a : Nat) => int i64 (old a), cells false 1 (nth [AV.mp 2]), AObj.map (mapE es), cells false 8 fun (a : Nat) => int i64 (fillP p old many a)] g any [cells false 8 fun (a : Nat) => int i64 (old a), cells false 1 (nth [AV.mp 2]), AObj.map (mapE es ++ [(kv (fillP p old many), int i64 (↑(farN p old many) : Int))]), cells false 8 fun (a : Nat) => int i64 (fillP p old many a)] g ∧ Q AEx.ret (St.mk [(6, int i64 (↑(cntN 8 fun (j : Nat) => fillP p old many j != old j) : Int))] [cells false 8 fun (a : Nat) => int i64 (old a), cells false 1 (nth [AV.mp 2]), AObj.map (mapE es ++ [(kv (fillP p old many), int i64 (↑(farN p old many) : Int))]), cells false 8 fun (a : Nat) => int i64 (fillP p old many a)] g)) (fun _ => by kernel_rfl) ⟨(by omega), ⟨(by omega), ⟨?_, ?_⟩⟩⟩⟩
              · exact opOk_mapNew (t := 101) (kt := 79) (vt := 3) (m := .tmp 42) (x := .tmp 43) (y := .tmp 44) (ob := 2) (es := mapE es) (kv := kv (fillP p old many)) (d := .int .i64 (farN p old many)) rfl (by kernel_rfl) plan_keyed rfl rfl (fun FM ρ v h => den_plan h) rfl trivial (key_plan (fit_fill hp ho)) (mapE_keys he) hno
              · refine (retQ_le (retQ_take' 3 _ _ rfl trivial (by omega) trivial ⟨(fun j hj => match j, hj with | 0, _ => trivial | 1, _ => trivial | 2, _ => trivial | 3, _ => trivial | 4, _ => trivial | 5, _ => trivial | 6, _ => trivial | 7, _ => trivial ), ⟨(fun j hj => match j, hj with | 0, _ => (show 3 ≤ 3 by omega) ), trivial⟩⟩ (by kernel_rfl) rfl rfl) (Le.of_eq (by kernel_rfl)))
theorem c_far (R : Res) (p old : Nat → Int) (many : Nat) (es : List ((Nat → Int) × Int)) (g : R.σ) (hm : many ≤ 8) (hp : ∀ j, j < many → -100 ≤ p j ∧ p j ≤ 100) (ho : fitP old) (he : okE es old) :
    Does Try.prog R 63 [encPlan p, .int .i64 many, .ref 0 0, .ref 1 0] (hpM old es) g (.ret (.int .i64 (farN p old many))) (hpM old (putE es p old many)) g := by
  cases hh : hitB es (fillP p old many) with
  | true =>
    have e : putE es p old many = es := by unfold putE; rw [hh]; rfl
    rw [e]
    exact far_hit R p old many es g hm hp ho he hh
  | false =>
    have e : hpM old (putE es p old many) = [.cells false 8 (fun a => .int .i64 (old a)), .cells false 1 (nth [.mp 2]), .map (mapE es ++ [(kv (fillP p old many), .int .i64 (farN p old many))])] := by
      unfold hpM putE mapE
      rw [hh]
      simp
    rw [e]
    exact far_miss R p old many es g hm hp ho he hh
end Go.Avm.Pack
namespace Go.Avm.Pack
open Go Go.Avm Go.Proofs
open Go.IntKind (i64 u64)
open Go.Avm.AV (int bool any fz fp sl ow ref fn ifc val agg tup)
open Go.Avm.AObj (cells dead)
open Go.Avm.Oc (ret)
set_option maxRecDepth 4000
structure NearS where
  es : List ((Nat → Int) × Int)
  out : List Int
  best : Int
def hpC (x : Ix) (gl : KL Rng) (old : Nat → Int) (b : NearS) : List AObj := [.cells false 1 (nth [encPacks x]), .cells false 2 (nth [encPacks x, encR gl]), .cells false 8 (fun a => .int .i64 (old a)), .cells false 1 (nth [.int .i64 b.best]), .map (mapE b.es), .cells false 1 (nth [.mp 4]), .cells false 1 (nth [.fn 63 0 (nth []) 2 (nth [.ref 2 0, .ref 5 0])]), .cells false 1 (nth [encI ⟨b.out, .auto⟩])]
theorem Closest2 (R : Res) (x : Ix) (gl : KL Rng) (old : Nat → Int) (b : NearS) (p : Nat → Int) (m : Nat) (g : R.σ) (hm : m ≤ 8) (hp : ∀ j, j < m → -100 ≤ p j ∧ p j ≤ 100) (ho : fitP old) (he : okE b.es old) :
    Does Try.prog R 64 [encPlan p, .int .i64 m, .ref 6 0, .ref 3 0] (hpC x gl old b) g (.ret (.bool (decide ((farN p old m : Int) < b.best)))) (hpC x gl old ⟨putE b.es p old m, b.out, b.best⟩) g := by
  refine spec_of_wp (nt := 13) (rs := [.tmp 6]) (k0 := 8) (by kernel_rfl) (by kernel_rfl) (by kernel_rfl) rfl ?_
  refine vcQ [] (lkL [(0, [1, 2, 3, 4]), (1, [6])]) (lkL [(1, [(3, ROrc.callS (int i64 (↑(farN p old m) : Int)) [(4, AObj.map (mapE (putE b.es p old m)))] g)])]) (fun (Q : AEx → St R.σ → Prop) => Tables.follows Try.prog.toTables Departure.mixedOrders = true ∧ 1 ≤ 1 ∧ 8 ≤ 8 ∧ (true = true ∧ Does Try.prog R 63 [encPlan p, int i64 (↑m : Int), ref 2 0, ref 5 0] [cells false 1 (nth [encPacks x]), cells false 2 (nth [encPacks x, encR gl]), cells false 8 fun (a : Nat) => int i64 (old a), cells false 1 (nth [int i64 b.best]), AObj.map (mapE b.es), cells false 1 (nth [AV.mp 4]), cells false 1 (nth [fn 63 0 (nth []) 2 (nth [ref 2 0, ref 5 0])]), cells false 1 (nth [fz Fz.auto 1 (List.length b.out) fun (i x : Nat) => int i64 (List.getD b.out i 0)]), cells false 8 fun (a : Nat) => int i64 (p a)] g (ret (int i64 (↑(farN p old m) : Int))) [cells false 1 (nth [encPacks x]), cells false 2 (nth [encPacks x, encR gl]), cells false 8 fun (a : Nat) => int i64 (old a), cells false 1 (nth [int i64 b.best]), AObj.map (mapE (putE b.es p old m)), cells false 1 (nth [AV.mp 4]), cells false 1 (nth [fn 63 0 (nth []) 2 (nth [ref 2 0, ref 5 0])]), cells false 1 (nth [fz Fz.auto 1 (List.length b.out) fun (i x : Nat) => int i64 (List.getD b.out i 0)]), cells false 8 fun (a : Nat) => int i64 (p a)] g) ∧ 1 ≤ 1 ∧ Q AEx.ret (St.mk [(6, AV.bool (decide ((↑(farN p old m) : Int) < b.best)))] [cells false 1 (nth [encPacks x]), cells false 2 (nth [encPacks x, encR gl]), cells false 8 fun (a : Nat) => int i64 (old a), cells false 1 (nth [int i64 b.best]), AObj.map (mapE (putE b.es p old m)), cells false 1 (nth [AV.mp 4]), cells false 1 (nth [fn 63 0 (nth []) 2 (nth [ref 2 0, ref 5 0])]), cells false 1 (nth [fz Fz.auto 1 (List.length b.out) fun (i x : Nat) => int i64 (List.getD b.out i 0)]), cells false 8 fun (a : Nat) => int i64 (p a)] g)) (fun _ => by kernel_rfl) ⟨(by kernel_rfl), ⟨(by omega), ⟨(by omega), ⟨⟨rfl, (does_sub' [2, 5, 4] 9 (fun R g => Go.Avm.Pack.c_far R (p) (old) (m) (b.es) g (by omega) (by omega) (by omega) (by omega)) rfl rfl rfl (by exact ⟨⟨rfl, Nat.le_refl _, fun j hj => match j, hj with | 0, _ => (Le.refl _) | 1, _ => (Le.refl _) | 2, _ => (Le.refl _) | 3, _ => (Le.refl _) | 4, _ => (Le.refl _) | 5, _ => (Le.refl _) | 6, _ => (Le.refl _) | 7, _ => (Le.refl _) ⟩, ⟨⟨rfl, Nat.le_refl _, fun j hj => match j, hj with | 0, _ => (Le.refl _) ⟩, ⟨rfl, trivial⟩⟩⟩) (by exact ⟨by omega, ⟨by omega, trivial⟩⟩) (by exact ⟨le_ren (by exact ⟨⟨⟨⟨⟨⟨⟨⟨trivial, trivial⟩, trivial⟩, trivial⟩, trivial⟩, trivial⟩, trivial⟩, trivial⟩, trivial⟩), ⟨le_ren (by exact trivial), ⟨(Le.refl _), ⟨(Le.refl _), trivial⟩⟩⟩⟩) (by exact le_unren (by exact trivial)) (by exact ⟨LeO.rflc, ⟨LeO.rflc, ⟨⟨rfl, Nat.le_refl _, fun j hj => match j, hj with | 0, _ => (Le.refl _) | 1, _ => (Le.refl _) | 2, _ => (Le.refl _) | 3, _ => (Le.refl _) | 4, _ => (Le.refl _) | 5, _ => (Le.refl _) | 6, _ => (Le.refl _) | 7, _ => (Le.refl _) ⟩, ⟨LeO.rflc, ⟨rfl, ⟨⟨rfl, Nat.le_refl _, fun j hj => match j, hj with | 0, _ => (Le.refl _) ⟩, ⟨LeO.rflc, ⟨LeO.rflc, ⟨LeO.rflc, trivial⟩⟩⟩⟩⟩⟩⟩⟩⟩))⟩, ⟨(by omega), ?_⟩⟩⟩⟩⟩
  refine (retQ_le (retQ_take' 8 _ _ rfl trivial (by omega) trivial ⟨(fun j hj => match j, hj with | 0, _ => trivial ), ⟨(fun j hj => match j, hj with | 0, _ => trivial | 1, _ => trivial ), ⟨(fun j hj => match j, hj with | 0, _ => trivial | 1, _ => trivial | 2, _ => trivial | 3, _ => trivial | 4, _ => trivial | 5, _ => trivial | 6, _ => trivial | 7, _ => trivial ), ⟨(fun j hj => match j, hj with | 0, _ => trivial ), ⟨(fun j hj => match j, hj with | 0, _ => (show 5 ≤ 8 by omega) ), ⟨(fun j hj => match j, hj with | 0, _ => ⟨trivial, ⟨⟨trivial, (show 3 ≤ 8 by omega)⟩, (show 6 ≤ 8 by omega)⟩⟩ ), ⟨(fun j hj => match j, hj with | 0, _ => trivial ), trivial⟩⟩⟩⟩⟩⟩⟩ (by kernel_rfl) rfl rfl) (Le.refl _))
theorem Closest3 (R : Res) (x : Ix) (gl : KL Rng) (old : Nat → Int) (b : NearS) (p : Nat → Int) (g : R.σ) (hp : ∀ j, j < x.l.length → -100 ≤ p j ∧ p j ≤ 100) (ho : fitP old) (he : okE b.es old)
    (h1 : 1 ≤ x.l.length) (h8 : x.l.length ≤ 8) (h : inP x p) (hw : wfN x p) (hwb : wfB x p) (hl : smallN x p) (hlb : smallB' x p) (hg : gl.l.length < 1000000) (hgl : ∀ r ∈ gl.l, 0 ≤ r.pack ∧ r.pack < x.l.length) :
    Does Try.prog R 65 [encPlan p, .ref 1 0, .ref 0 0, .ref 6 0, .ref 7 0, .ref 3 0] (hpC x gl old b) g (.ret (.bool true)) (hpC x gl old (if fineB x gl.l p then ⟨putE b.es p old x.l.length, planL p x.l.length, farN p old x.l.length⟩ else b)) g := by
  cases hf : fineB x gl.l p with
  | true =>
    rw [if_pos rfl]
    refine spec_of_wp (nt := 24) (rs := [.tmp 7]) (k0 := 8) (by kernel_rfl) (by kernel_rfl) (by kernel_rfl) rfl ?_
    refine vcQ [] (lkL [(0, [1, 2, 3, 4, 5, 6]), (1, [2, 3, 4, 5, 6, 12]), (3, [7])]) (lkL [(1, [(2, ROrc.pcall (agg 2 (nth [int i64 (faultOf x gl.l p).fst, int i64 (faultOf x gl.l p).snd])))]), (2, [(4, ROrc.kcall (fz Fz.auto 1 (List.length (planL p (List.length x.l - 0))) fun (i x_1 : Nat) => int i64 (List.getD (planL p (List.length x.l - 0)) i 0))), (10, ROrc.callS (int i64 (↑(farN p old (List.length x.l)) : Int)) [(4, AObj.map (mapE (putE b.es p old (List.length x.l))))] g), (11, ROrc.val (Orc.obj (nth [fz Fz.auto 1 (List.length (planL p (List.length x.l - 0))) fun (i x_1 : Nat) => int i64 (List.getD (planL p (List.length x.l - 0)) i 0)]))), (12, ROrc.val (Orc.obj (nth [int i64 (↑(farN p old (List.length x.l)) : Int)])))])]) (fun (Q : AEx → St R.σ → Prop) => 2 ≤ 2 ∧ 8 ≤ 8 ∧ (∀ (hp : List AObj) (g : R.σ), true = true ∧ Does Try.prog R 47 [encMkt x gl, encPlan p] hp g (ret (agg 2 (nth [int i64 (faultOf x gl.l p).fst, int i64 (faultOf x gl.l p).snd]))) hp g) ∧ (((faultOf x gl.l p).fst == 0 && ((faultOf x gl.l p).snd == 0 && true)) = true → Tables.follows Try.prog.toTables Departure.mixedOrders = true ∧ 1 ≤ 1 ∧ (0 ≤ (↑(List.length x.l) : Int) ∧ (↑(List.length x.l) : Int) ≤ (↑8 : Int)) ∧ 0 < 8 ∧ 8 ≤ 8 ∧ 0 < 8 ∧ (true = true ∧ Does Try.prog R 37 [sl 8 0 (List.length x.l - 0) 8 true 1] [cells false 1 (nth [encPacks x]), cells false 2 (nth [encPacks x, encR gl]), cells false 8 fun (a : Nat) => int i64 (old a), cells false 1 (nth [int i64 b.best]), AObj.map (mapE b.es), cells false 1 (nth [AV.mp 4]), cells false 1 (nth [fn 63 0 (nth []) 2 (nth [ref 2 0, ref 5 0])]), cells false 1 (nth [fz Fz.auto 1 (List.length b.out) fun (i x : Nat) => int i64 (List.getD b.out i 0)]), cells false 8 fun (a : Nat) => int i64 (p a)] g (ret (fz Fz.auto 1 (List.length (planL p (List.length x.l - 0))) fun (i x_2 : Nat) => int i64 (List.getD (planL p (List.length x.l - 0)) i 0))) [cells false 1 (nth [encPacks x]), cells false 2 (nth [encPacks x, encR gl]), cells false 8 fun (a : Nat) => int i64 (old a), cells false 1 (nth [int i64 b.best]), AObj.map (mapE b.es), cells false 1 (nth [AV.mp 4]), cells false 1 (nth [fn 63 0 (nth []) 2 (nth [ref 2 0, ref 5 0])]), cells false 1 (nth [fz Fz.auto 1 (List.length b.out) fun (i x : Nat) => int i64 (List.getD b.out i 0)]), cells false 8 fun (a : Nat) => int i64 (p a)] g) ∧ 1 ≤ 1 ∧ 8 ≤ 8 ∧ 1 ≤ 1 ∧ (true = true ∧ Does Try.prog R 63 [encPlan p, int i64 (↑(List.length x.l) : Int), ref 2 0, ref 5 0] [cells false 1 (nth [encPacks x]), cells false 2 (nth [encPacks x, encR gl]), cells false 8 fun (a : Nat) => int i64 (old a), cells false 1 (nth [int i64 b.best]), AObj.map (mapE b.es), cells false 1 (nth [AV.mp 4]), cells false 1 (nth [fn 63 0 (nth []) 2 (nth [ref 2 0, ref 5 0])]), cells false 1 (nth [fz Fz.auto 1 (List.length b.out) fun (i x : Nat) => int i64 (List.getD b.out i 0)]), cells false 8 fun (a : Nat) => int i64 (p a)] g (ret (int i64 (↑(farN p old (List.length x.l)) : Int))) [cells false 1 (nth [encPacks x]), cells false 2 (nth [encPacks x, encR gl]), cells false 8 fun (a : Nat) => int i64 (old a), cells false 1 (nth [int i64 b.best]), AObj.map (mapE (putE b.es p old (List.length x.l))), cells false 1 (nth [AV.mp 4]), cells false 1 (nth [fn 63 0 (nth []) 2 (nth [ref 2 0, ref 5 0])]), cells false 1 (nth [fz Fz.auto 1 (List.length b.out) fun (i x : Nat) => int i64 (List.getD b.out i 0)]), cells false 8 fun (a : Nat) => int i64 (p a)] g) ∧ 1 ≤ 1 ∧ (∀ (c : Nat), c < 1 → nth [fz Fz.auto 1 (List.length (planL p (List.length x.l - 0))) fun (i x_2 : Nat) => int i64 (List.getD (planL p (List.length x.l - 0)) i 0)] c = over (nth [fz Fz.auto 1 (List.length b.out) fun (i x : Nat) => int i64 (List.getD b.out i 0)]) 0 1 (fun (x_2 : Nat) => fz Fz.auto 1 (List.length (planL p (List.length x.l - 0))) fun (i x_3 : Nat) => int i64 (List.getD (planL p (List.length x.l - 0)) i 0)) c) ∧ 1 ≤ 1 ∧ (∀ (c : Nat), c < 1 → nth [int i64 (↑(farN p old (List.length x.l)) : Int)] c = over (nth [int i64 b.best]) 0 1 (fun (x_2 : Nat) => int i64 (↑(farN p old (List.length x.l)) : Int)) c) ∧ Q AEx.ret (St.mk [(7, AV.bool true)] [cells false 1 (nth [encPacks x]), cells false 2 (nth [encPacks x, encR gl]), cells false 8 fun (a : Nat) => int i64 (old a), cells false 1 (nth [int i64 (↑(farN p old (List.length x.l)) : Int)]), AObj.map (mapE (putE b.es p old (List.length x.l))), cells false 1 (nth [AV.mp 4]), cells false 1 (nth [fn 63 0 (nth []) 2 (nth [ref 2 0, ref 5 0])]), cells false 1 (nth [fz Fz.auto 1 (List.length (planL p (List.length x.l - 0))) fun (i x_2 : Nat) => int i64 (List.getD (planL p (List.length x.l - 0)) i 0)]), cells false 8 fun (a : Nat) => int i64 (p a)] g)) ∧ (((faultOf x gl.l p).fst == 0 && ((faultOf x gl.l p).snd == 0 && true)) = false → Q AEx.ret (St.mk [(7, AV.bool true)] [cells false 1 (nth [encPacks x]), cells false 2 (nth [encPacks x, encR gl]), cells false 8 fun (a : Nat) => int i64 (old a), cells false 1 (nth [int i64 b.best]), AObj.map (mapE b.es), cells false 1 (nth [AV.mp 4]), cells false 1 (nth [fn 63 0 (nth []) 2 (nth [ref 2 0, ref 5 0])]), cells false 1 (nth [fz Fz.auto 1 (List.length b.out) fun (i x : Nat) => int i64 (List.getD b.out i 0)]), cells false 8 fun (a : Nat) => int i64 (p a)] g))) (fun _ => by kernel_rfl) ⟨(by omega), ⟨(by omega), ⟨(fun _ _ => ⟨rfl, (Go.Avm.Pack.c_fault _ _ _ _ _ _ (by omega) (by omega) (by omega) (by omega) (by omega) (by omega) (by omega) (by omega))⟩), ⟨fun c1 => ⟨(by kernel_rfl), ⟨(by omega), ⟨(by omega), ⟨(by omega), ⟨(by omega), ⟨(by omega), ⟨⟨rfl, (does_sub' [8] 9 (fun R g => Go.Avm.Pack.c_CloneA R (p) (List.length x.l - 0) g (by omega) (by omega)) rfl rfl rfl (by exact ⟨⟨rfl, Nat.le_refl _, fun j hj => match j, hj with | 0, _ => (Le.refl _) | 1, _ => (Le.refl _) | 2, _ => (Le.refl _) | 3, _ => (Le.refl _) | 4, _ => (Le.refl _) | 5, _ => (Le.refl _) | 6, _ => (Le.refl _) | 7, _ => (Le.refl _) ⟩, trivial⟩) (by exact ⟨by omega, trivial⟩) (by exact ⟨(Le.refl _), trivial⟩) (by exact le_unren (by exact trivial)) (by exact ⟨LeO.rflc, ⟨LeO.rflc, ⟨LeO.rflc, ⟨LeO.rflc, ⟨rfl, ⟨LeO.rflc, ⟨LeO.rflc, ⟨LeO.rflc, ⟨⟨rfl, Nat.le_refl _, fun j hj => match j, hj with | 0, _ => (Le.refl _) | 1, _ => (Le.refl _) | 2, _ => (Le.refl _) | 3, _ => (Le.refl _) | 4, _ => (Le.refl _) | 5, _ => (Le.refl _) | 6, _ => (Le.refl _) | 7, _ => (Le.refl _) ⟩, trivial⟩⟩⟩⟩⟩⟩⟩⟩⟩))⟩, ⟨(by omega), ⟨(by omega), ⟨(by omega), ⟨⟨rfl, (does_sub' [2, 5, 4] 9 (fun R g => Go.Avm.Pack.c_far R (p) (old) (List.length x.l) (b.es) g (by omega) (by omega) (by omega) (by omega)) rfl rfl rfl (by exact ⟨⟨rfl, Nat.le_refl _, fun j hj => match j, hj with | 0, _ => (Le.refl _) | 1, _ => (Le.refl _) | 2, _ => (Le.refl _) | 3, _ => (Le.refl _) | 4, _ => (Le.refl _) | 5, _ => (Le.refl _) | 6, _ => (Le.refl _) | 7, _ => (Le.refl _) ⟩, ⟨⟨rfl, Nat.le_refl _, fun j hj => match j, hj with | 0, _ => (Le.refl _) ⟩, ⟨rfl, trivial⟩⟩⟩) (by exact ⟨by omega, ⟨by omega, trivial⟩⟩) (by exact ⟨le_ren (by exact ⟨⟨⟨⟨⟨⟨⟨⟨trivial, trivial⟩, trivial⟩, trivial⟩, trivial⟩, trivial⟩, trivial⟩, trivial⟩, trivial⟩), ⟨le_ren (by exact trivial), ⟨(Le.refl _), ⟨(Le.refl _), trivial⟩⟩⟩⟩) (by exact le_unren (by exact trivial)) (by exact ⟨LeO.rflc, ⟨LeO.rflc, ⟨⟨rfl, Nat.le_refl _, fun j hj => match j, hj with | 0, _ => (Le.refl _) | 1, _ => (Le.refl _) | 2, _ => (Le.refl _) | 3, _ => (Le.refl _) | 4, _ => (Le.refl _) | 5, _ => (Le.refl _) | 6, _ => (Le.refl _) | 7, _ => (Le.refl _) ⟩, ⟨LeO.rflc, ⟨rfl, ⟨⟨rfl, Nat.le_refl _, fun j hj => match j, hj with | 0, _ => (Le.refl _) ⟩, ⟨LeO.rflc, ⟨LeO.rflc, ⟨LeO.rflc, trivial⟩⟩⟩⟩⟩⟩⟩⟩⟩))⟩, ⟨(by omega), ⟨(fun c hc => match c, hc with | 0, _ => (by kernel_rfl) ), ⟨(by omega), ⟨(fun c hc => match c, hc with | 0, _ => (by kernel_rfl) ), ?_⟩⟩⟩⟩⟩⟩⟩⟩⟩⟩⟩⟩⟩⟩⟩, fun c1 => ?_⟩⟩⟩⟩
    · refine (retQ_le (retQ_take' 8 _ _ rfl trivial (by omega) trivial ⟨(fun j hj => match j, hj with | 0, _ => trivial ), ⟨(fun j hj => match j, hj with | 0, _ => trivial | 1, _ => trivial ), ⟨(fun j hj => match j, hj with | 0, _ => trivial | 1, _ => trivial | 2, _ => trivial | 3, _ => trivial | 4, _ => trivial | 5, _ => trivial | 6, _ => trivial | 7, _ => trivial ), ⟨(fun j hj => match j, hj with | 0, _ => trivial ), ⟨(fun j hj => match j, hj with | 0, _ => (show 5 ≤ 8 by omega) ), ⟨(fun j hj => match j, hj with | 0, _ => ⟨trivial, ⟨⟨trivial, (show 3 ≤ 8 by omega)⟩, (show 6 ≤ 8 by omega)⟩⟩ ), ⟨(fun j hj => match j, hj with | 0, _ => trivial ), trivial⟩⟩⟩⟩⟩⟩⟩ (by kernel_rfl) rfl rfl) (Le.refl _))
    · exact absurd (show fineB x gl.l p = false from c1) (by rw [hf]; decide)
  | false =>
    rw [if_neg (by decide)]
    refine spec_of_wp (nt := 24) (rs := [.tmp 7]) (k0 := 8) (by kernel_rfl) (by kernel_rfl) (by kernel_rfl) rfl ?_
    refine vcQ [] (lkL [(0, [1, 2, 3, 4, 5, 6]), (1, [2, 3, 4, 5, 6, 12]), (3, [7])]) (lkL [(1, [(2, ROrc.pcall (agg 2 (nth [int i64 (faultOf x gl.l p).fst, int i64 (faultOf x gl.l p).snd])))]), (2, [(4, ROrc.kcall (fz Fz.auto 1 (List.length (planL p (List.length x.l - 0))) fun (i x_1 : Nat) => int i64 (List.getD (planL p (List.length x.l - 0)) i 0))), (10, ROrc.callS (int i64 (↑(farN p old (List.length x.l)) : Int)) [(4, AObj.map (mapE (putE b.es p old (List.length x.l))))] g), (11, ROrc.val (Orc.obj (nth [fz Fz.auto 1 (List.length (planL p (List.length x.l - 0))) fun (i x_1 : Nat) => int i64 (List.getD (planL p (List.length x.l - 0)) i 0)]))), (12, ROrc.val (Orc.obj (nth [int i64 (↑(farN p old (List.length x.l)) : Int)])))])]) (fun (Q : AEx → St R.σ → Prop) => 2 ≤ 2 ∧ 8 ≤ 8 ∧ (∀ (hp : List AObj) (g : R.σ), true = true ∧ Does Try.prog R 47 [encMkt x gl, encPlan p] hp g (ret (agg 2 (nth [int i64 (faultOf x gl.l p).fst, int i64 (faultOf x gl.l p).snd]))) hp g) ∧ (((faultOf x gl.l p).fst == 0 && ((faultOf x gl.l p).snd == 0 && true)) = true → Tables.follows Try.prog.toTables Departure.mixedOrders = true ∧ 1 ≤ 1 ∧ (0 ≤ (↑(List.length x.l) : Int) ∧ (↑(List.length x.l) : Int) ≤ (↑8 : Int)) ∧ 0 < 8 ∧ 8 ≤ 8 ∧ 0 < 8 ∧ (true = true ∧ Does Try.prog R 37 [sl 8 0 (List.length x.l - 0) 8 true 1] [cells false 1 (nth [encPacks x]), cells false 2 (nth [encPacks x, encR gl]), cells false 8 fun (a : Nat) => int i64 (old a), cells false 1 (nth [int i64 b.best]), AObj.map (mapE b.es), cells false 1 (nth [AV.mp 4]), cells false 1 (nth [fn 63 0 (nth []) 2 (nth [ref 2 0, ref 5 0])]), cells false 1 (nth [fz Fz.auto 1 (List.length b.out) fun (i x : Nat) => int i64 (List.getD b.out i 0)]), cells false 8 fun (a : Nat) => int i64 (p a)] g (ret (fz Fz.auto 1 (List.length (planL p (List.length x.l - 0))) fun (i x_2 : Nat) => int i64 (List.getD (planL p (List.length x.l - 0)) i 0))) [cells false 1 (nth [encPacks x]), cells false 2 (nth [encPacks x, encR gl]), cells false 8 fun (a : Nat) => int i64 (old a), cells false 1 (nth [int i64 b.best]), AObj.map (mapE b.es), cells false 1 (nth [AV.mp 4]), cells false 1 (nth [fn 63 0 (nth []) 2 (nth [ref 2 0, ref 5 0])]), cells false 1 (nth [fz Fz.auto 1 (List.length b.out) fun (i x : Nat) => int i64 (List.getD b.out i 0)]), cells false 8 fun (a : Nat) => int i64 (p a)] g) ∧ 1 ≤ 1 ∧ 8 ≤ 8 ∧ 1 ≤ 1 ∧ (true = true ∧ Does Try.prog R 63 [encPlan p, int i64 (↑(List.length x.l) : Int), ref 2 0, ref 5 0] [cells false 1 (nth [encPacks x]), cells false 2 (nth [encPacks x, encR gl]), cells false 8 fun (a : Nat) => int i64 (old a), cells false 1 (nth [int i64 b.best]), AObj.map (mapE b.es), cells false 1 (nth [AV.mp 4]), cells false 1 (nth [fn 63 0 (nth []) 2 (nth [ref 2 0, ref 5 0])]), cells false 1 (nth [fz Fz.auto 1 (List.length b.out) fun (i x : Nat) => int i64 (List.getD b.out i 0)]), cells false 8 fun (a : Nat) => int i64 (p a)] g (ret (int i64 (↑(farN p old (List.length x.l)) : Int))) [cells false 1 (nth [encPacks x]), cells false 2 (nth [encPacks x, encR gl]), cells false 8 fun (a : Nat) => int i64 (old a), cells false 1 (nth [int i64 b.best]), AObj.map (mapE (putE b.es p old (List.length x.l))), cells false 1 (nth [AV.mp 4]), cells false 1 (nth [fn 63 0 (nth []) 2 (nth [ref 2 0, ref 5 0])]), cells false 1 (nth [fz Fz.auto 1 (List.length b.out) fun (i x : Nat) => int i64 (List.getD b.out i 0)]), cells false 8 fun (a : Nat) => int i64 (p a)] g) ∧ 1 ≤ 1 ∧ (∀ (c : Nat), c < 1 → nth [fz Fz.auto 1 (List.length (planL p (List.length x.l - 0))) fun (i x_2 : Nat) => int i64 (List.getD (planL p (List.length x.l - 0)) i 0)] c = over (nth [fz Fz.auto 1 (List.length b.out) fun (i x : Nat) => int i64 (List.getD b.out i 0)]) 0 1 (fun (x_2 : Nat) => fz Fz.auto 1 (List.length (planL p (List.length x.l - 0))) fun (i x_3 : Nat) => int i64 (List.getD (planL p (List.length x.l - 0)) i 0)) c) ∧ 1 ≤ 1 ∧ (∀ (c : Nat), c < 1 → nth [int i64 (↑(farN p old (List.length x.l)) : Int)] c = over (nth [int i64 b.best]) 0 1 (fun (x_2 : Nat) => int i64 (↑(farN p old (List.length x.l)) : Int)) c) ∧ Q AEx.ret (St.mk [(7, AV.bool true)] [cells false 1 (nth [encPacks x]), cells false 2 (nth [encPacks x, encR gl]), cells false 8 fun (a : Nat) => int i64 (old a), cells false 1 (nth [int i64 (↑(farN p old (List.length x.l)) : Int)]), AObj.map (mapE (putE b.es p old (List.length x.l))), cells false 1 (nth [AV.mp 4]), cells false 1 (nth [fn 63 0 (nth []) 2 (nth [ref 2 0, ref 5 0])]), cells false 1 (nth [fz Fz.auto 1 (List.length (planL p (List.length x.l - 0))) fun (i x_2 : Nat) => int i64 (List.getD (planL p (List.length x.l - 0)) i 0)]), cells false 8 fun (a : Nat) => int i64 (p a)] g)) ∧ (((faultOf x gl.l p).fst == 0 && ((faultOf x gl.l p).snd == 0 && true)) = false → Q AEx.ret (St.mk [(7, AV.bool true)] [cells false 1 (nth [encPacks x]), cells false 2 (nth [encPacks x, encR gl]), cells false 8 fun (a : Nat) => int i64 (old a), cells false 1 (nth [int i64 b.best]), AObj.map (mapE b.es), cells false 1 (nth [AV.mp 4]), cells false 1 (nth [fn 63 0 (nth []) 2 (nth [ref 2 0, ref 5 0])]), cells false 1 (nth [fz Fz.auto 1 (List.length b.out) fun (i x : Nat) => int i64 (List.getD b.out i 0)]), cells false 8 fun (a : Nat) => int i64 (p a)] g))) (fun _ => by kernel_rfl) ⟨(by omega), ⟨(by omega), ⟨(fun _ _ => ⟨rfl, (Go.Avm.Pack.c_fault _ _ _ _ _ _ (by omega) (by omega) (by omega) (by omega) (by omega) (by omega) (by omega) (by omega))⟩), ⟨fun c1 => ⟨(by kernel_rfl), ⟨(by omega), ⟨(by omega), ⟨(by omega), ⟨(by omega), ⟨(by omega), ⟨⟨rfl, (does_sub' [8] 9 (fun R g => Go.Avm.Pack.c_CloneA R (p) (List.length x.l - 0) g (by omega) (by omega)) rfl rfl rfl (by exact ⟨⟨rfl, Nat.le_refl _, fun j hj => match j, hj with | 0, _ => (Le.refl _) | 1, _ => (Le.refl _) | 2, _ => (Le.refl _) | 3, _ => (Le.refl _) | 4, _ => (Le.refl _) | 5, _ => (Le.refl _) | 6, _ => (Le.refl _) | 7, _ => (Le.refl _) ⟩, trivial⟩) (by exact ⟨by omega, trivial⟩) (by exact ⟨(Le.refl _), trivial⟩) (by exact le_unren (by exact trivial)) (by exact ⟨LeO.rflc, ⟨LeO.rflc, ⟨LeO.rflc, ⟨LeO.rflc, ⟨rfl, ⟨LeO.rflc, ⟨LeO.rflc, ⟨LeO.rflc, ⟨⟨rfl, Nat.le_refl _, fun j hj => match j, hj with | 0, _ => (Le.refl _) | 1, _ => (Le.refl _) | 2, _ => (Le.refl _) | 3, _ => (Le.refl _) | 4, _ => (Le.refl _) | 5, _ => (Le.refl _) | 6, _ => (Le.refl _) | 7, _ => (Le.refl _) ⟩, trivial⟩⟩⟩⟩⟩⟩⟩⟩⟩))⟩, ⟨(by omega), ⟨(by omega), ⟨(by omega), ⟨⟨rfl, (does_sub' [2, 5, 4] 9 (fun R g => Go.Avm.Pack.c_far R (p) (old) (List.length x.l) (b.es) g (by omega) (by omega) (by omega) (by omega)) rfl rfl rfl (by exact ⟨⟨rfl, Nat.le_refl _, fun j hj => match j, hj with | 0, _ => (Le.refl _) | 1, _ => (Le.refl _) | 2, _ => (Le.refl _) | 3, _ => (Le.refl _) | 4, _ => (Le.refl _) | 5, _ => (Le.refl _) | 6, _ => (Le.refl _) | 7, _ => (Le.refl _) ⟩, ⟨⟨rfl, Nat.le_refl _, fun j hj => match j, hj with | 0, _ => (Le.refl _) ⟩, ⟨rfl, trivial⟩⟩⟩) (by exact ⟨by omega, ⟨by omega, trivial⟩⟩) (by exact ⟨le_ren (by exact ⟨⟨⟨⟨⟨⟨⟨⟨trivial, trivial⟩, trivial⟩, trivial⟩, trivial⟩, trivial⟩, trivial⟩, trivial⟩, trivial⟩), ⟨le_ren (by exact trivial), ⟨(Le.refl _), ⟨(Le.refl _), trivial⟩⟩⟩⟩) (by exact le_unren (by exact trivial)) (by exact ⟨LeO.rflc, ⟨LeO.rflc, ⟨⟨rfl, Nat.le_refl _, fun j hj => match j, hj with | 0, _ => (Le.refl _) | 1, _ => (Le.refl _) | 2, _ => (Le.refl _) | 3, _ => (Le.refl _) | 4, _ => (Le.refl _) | 5, _ => (Le.refl _) | 6, _ => (Le.refl _) | 7, _ => (Le.refl _) ⟩, ⟨LeO.rflc, ⟨rfl, ⟨⟨rfl, Nat.le_refl _, fun j hj => match j, hj with | 0, _ => (Le.refl _) ⟩, ⟨LeO.rflc, ⟨LeO.rflc, ⟨LeO.rflc, trivial⟩⟩⟩⟩⟩⟩⟩⟩⟩))⟩, ⟨(by omega), ⟨(fun c hc => match c, hc with | 0, _ => (by kernel_rfl) ), ⟨(by omega), ⟨(fun c hc => match c, hc with | 0, _ => (by kernel_rfl) ), ?_⟩⟩⟩⟩⟩⟩⟩⟩⟩⟩⟩⟩⟩⟩⟩, fun c1 => ?_⟩⟩⟩⟩
    · exact absurd (show fineB x gl.l p = true from c1) (by rw [hf]; decide)
    · refine (retQ_le (retQ_take' 8 _ _ rfl trivial (by omega) trivial ⟨(fun j hj => match j, hj with | 0, _ => trivial ), ⟨(fun j hj => match j, hj with | 0, _ => trivial | 1, _ => trivial ), ⟨(fun j hj => match j, hj with | 0, _ => trivial | 1, _ => trivial | 2, _ => trivial | 3, _ => trivial | 4, _ => trivial | 5, _ => trivial | 6, _ => trivial | 7, _ => trivial ), ⟨(fun j hj => match j, hj with | 0, _ => trivial ), ⟨(fun j hj => match j, hj with | 0, _ => (show 5 ≤ 8 by omega) ), ⟨(fun j hj => match j, hj with | 0, _ => ⟨trivial, ⟨⟨trivial, (show 3 ≤ 8 by omega)⟩, (show 6 ≤ 8 by omega)⟩⟩ ), ⟨(fun j hj => match j, hj with | 0, _ => trivial ), trivial⟩⟩⟩⟩⟩⟩⟩ (by kernel_rfl) rfl rfl) (Le.refl _))
end Go.Avm.Pack
namespace Go.Avm.Pack
open Go Go.Avm Go.Proofs
open Go.IntKind (i64 u64)
open Go.Avm.AV (int bool any fz fp sl ow ref fn ifc val agg tup)
open Go.Avm.AObj (cells dead)
open Go.Avm.Oc (ret)
set_option maxRecDepth 4000
def wnN (old : Nat → Int) (b : NearS) (p : Nat → Int) (m : Nat) : Bool × NearS := (decide ((farN p old m : Int) < b.best), ⟨putE b.es p old m, b.out, b.best⟩)
def fdN (x : Ix) (gl : List Rng) (old : Nat → Int) (b : NearS) (p : Nat → Int) : Bool × NearS := (true, if fineB x gl p then ⟨putE b.es p old x.l.length, planL p x.l.length, farN p old x.l.length⟩ else b)
def nearP (x : Ix) (gl : List Rng) (old : Nat → Int) : NearS := (eachR x gl (clausesOf x gl) (wnN old) (fdN x gl old) x.l.length ⟨[], [], (x.l.length : Int) + 1⟩ (fun _ => 0)).2
def nearR (x : Ix) (gl : List Rng) (hv : List Int) : List Int × Int × Int :=
  if checkB x gl then if plannedB x hv then if Nat.beq (nearP x gl (planOf hv x.l.length)).out.length 0 then ([], 0, 5) else ((nearP x gl (planOf hv x.l.length)).out, (nearP x gl (planOf hv x.l.length)).best, 0) else ([], 0, 2) else ([], 0, 2)
theorem fit_in {x : Ix} (hx : formedB x = true) {p : Nat → Int} {m : Nat} (h : inQ x p m) (hm : m ≤ x.l.length) : ∀ j, j < m → -100 ≤ p j ∧ p j ≤ 100 := fun j hj => by
  have := h j hj
  have h5 := formed_five hx (show j < x.l.length by omega)
  omega
theorem fit_planned {x : Ix} (hx : formedB x = true) {l : List Int} (h : plannedB x l = true) : fitP (planOf l x.l.length) := fun j hj => by
  by_cases hl : j < x.l.length
  · exact fit_in hx (planned_inP h) (Nat.le_refl _) j hl
  · unfold planOf
    rw [if_neg hl]
    decide
theorem c_Closest (R : Res) (x : Ix) (gl : KL Rng) (hv : KL Int) (hp : List AObj) (g : R.σ) (hs : small x) (hg : gl.l.length < 1000000) :
    Does Try.prog R 22 [encIx x, encR gl, encI hv] hp g (.ret (.tup 3 (nth [encI ⟨(nearR x gl.l hv.l).1, .auto⟩, .int .i64 (nearR x gl.l hv.l).2.1, .int .i64 (nearR x gl.l hv.l).2.2]))) hp g := by
  refine does_any' (fun R g => ?_) (by exact ⟨⟨trivial, trivial⟩, ⟨trivial, ⟨trivial, trivial⟩⟩⟩) R hp g
  cases hck : checkB x gl.l with
  | false =>
    have e : nearR x gl.l hv.l = ([], 0, 2) := by unfold nearR; rw [hck]; rfl
    rw [e]
    refine spec_of_wp (nt := 47) (rs := [.tmp 6, .tmp 7, .tmp 8]) (k0 := 0) (by kernel_rfl) (by kernel_rfl) (by kernel_rfl) rfl ?_
    refine vcQ [] (lkL [(0, [1, 2, 3]), (1, [1, 2, 3, 19]), (2, [6, 7, 8]), (3, [2, 3, 9]), (4, [3, 9, 10, 11])]) (lkL [(1, [(2, ROrc.pcall (int i64 2))]), (3, [(4, ROrc.val (Orc.obj (nth [encPacks x, encR gl])))])]) (fun (Q : AEx → St R.σ → Prop) => 1 ≤ 1 ∧ (∀ (hp : List AObj) (g : R.σ), true = true ∧ Does Try.prog R 11 [encIx x, encR gl] hp g (ret (int i64 2)) hp g) ∧ (true = true → Q AEx.ret (St.mk [(6, fz Fz.nil 0 0 fun (x x_2 : Nat) => any), (7, int i64 0), (8, int i64 2)] [cells false 1 (nth [encPacks x])] g)) ∧ (true = false → 1 ≤ 1 ∧ 2 ≤ 2 ∧ (∀ (c : Nat), c < 2 → nth [encPacks x, encR gl] c = over (nth [fz Fz.nil 0 0 fun (x x_2 : Nat) => any, fz Fz.nil 0 0 fun (x x_2 : Nat) => any]) 0 2 (List.brecOn (motive := fun (x : List AV) => Nat → AV) [encPacks x, encR gl] nth._f) c) ∧ False)) (fun _ => by kernel_rfl) ⟨(by omega), ⟨(fun _ _ => ⟨rfl, (Go.Avm.Pack.c_Check_f _ _ _ _ _ (by omega) (by omega) (by omega))⟩), ⟨fun _ => ?_, fun h => (nomatch h)⟩⟩⟩
    refine (retQ_le (retQ_drop _ _ rfl trivial ⟨⟨⟨trivial, trivial⟩, trivial⟩, trivial⟩ rfl) (Le.tup (fun j hj => match j, hj with | 0, _ => Le.nil_auto | 1, _ => (Le.of_eq (by kernel_rfl)) | 2, _ => (Le.of_eq (by kernel_rfl)) )))
  | true =>
    obtain ⟨hx, hg4, hr⟩ := check_parts hck
    have hgl := check_goals hck
    obtain ⟨hx1, h8⟩ := formed_le hx
    cases hpl : plannedB x hv.l with
    | false =>
      have e : nearR x gl.l hv.l = ([], 0, 2) := by unfold nearR; rw [hck, hpl]; rfl
      rw [e]
      refine spec_of_wp (nt := 47) (rs := [.tmp 6, .tmp 7, .tmp 8]) (k0 := 0) (by kernel_rfl) (by kernel_rfl) (by kernel_rfl) rfl ?_
      refine vcQ [] (lkL [(0, [1, 2, 3]), (1, [1, 2, 3, 19]), (2, [6, 7, 8]), (3, [2, 3, 9]), (4, [3, 9, 10, 11]), (5, [3, 9, 10, 30]), (6, [6, 7, 8]), (7, [3, 9, 10, 12]), (8, [3, 9, 10, 12, 13])]) (lkL [(1, [(2, ROrc.pcall (int i64 0))]), (3, [(4, ROrc.val (Orc.obj (nth [encPacks x, encR gl])))]), (4, [(2, ROrc.pcall (tup 2 (nth [agg 8 fun (x : Nat) => any, AV.bool false]))), (7, ROrc.val (Orc.obj fun (x : Nat) => any))]), (7, [(5, ROrc.val (Orc.obj (nth [int i64 ((↑(List.length x.l) : Int) + 1)])))])]) (fun (Q : AEx → St R.σ → Prop) => 1 ≤ 1 ∧ (∀ (hp : List AObj) (g : R.σ), true = true ∧ Does Try.prog R 11 [encIx x, encR gl] hp g (ret (int i64 0)) hp g) ∧ (false = true → Q AEx.ret (St.mk [(6, fz Fz.nil 0 0 fun (x x_2 : Nat) => any), (7, int i64 0), (8, int i64 2)] [cells false 1 (nth [encPacks x])] g)) ∧ (false = false → 1 ≤ 1 ∧ 2 ≤ 2 ∧ (∀ (c : Nat), c < 2 → nth [encPacks x, encR gl] c = over (nth [fz Fz.nil 0 0 fun (x x_2 : Nat) => any, fz Fz.nil 0 0 fun (x x_2 : Nat) => any]) 0 2 (List.brecOn (motive := fun (x : List AV) => Nat → AV) [encPacks x, encR gl] nth._f) c) ∧ 2 ≤ 2 ∧ (∀ (hp : List AObj) (g : R.σ), true = true ∧ Does Try.prog R 46 [encMkt x gl, encI hv] hp g (ret (tup 2 (nth [agg 8 fun (x : Nat) => any, AV.bool false]))) hp g) ∧ 8 ≤ 8 ∧ (∀ (c : Nat), c < 8 → any = over (nth [int i64 0, int i64 0, int i64 0, int i64 0, int i64 0, int i64 0, int i64 0, int i64 0]) 0 8 (fun (x : Nat) => any) c) ∧ (true = true → Q AEx.ret (St.mk [(6, fz Fz.nil 0 0 fun (x x_3 : Nat) => any), (7, int i64 0), (8, int i64 2)] [cells false 1 (nth [encPacks x]), cells false 2 (nth [encPacks x, encR gl]), cells false 8 fun (x : Nat) => any] g)) ∧ (true = false → 1 ≤ 1 ∧ (-9223372036854775808 ≤ (↑(List.length x.l) : Int) + 1 ∧ (↑(List.length x.l) : Int) + 1 ≤ 9223372036854775807) ∧ 1 ≤ 1 ∧ (∀ (c : Nat), c < 1 → nth [int i64 ((↑(List.length x.l) : Int) + 1)] c = over (fun (a : Nat) => int i64 0) 0 1 (fun (x_3 : Nat) => int i64 ((↑(List.length x.l) : Int) + 1)) c) ∧ False))) (fun _ => by kernel_rfl) ⟨(by omega), ⟨(fun _ _ => ⟨rfl, (Go.Avm.Pack.c_Check_t _ _ _ _ _ (by omega) (by omega) (by omega))⟩), ⟨fun h => (nomatch h), fun _ => ⟨(by omega), ⟨(by omega), ⟨(fun c hc => match c, hc with | 0, _ => (by kernel_rfl) | 1, _ => (by kernel_rfl) ), ⟨(by omega), ⟨(fun _ _ => ⟨rfl, (Go.Avm.Pack.c_planned_f _ _ _ _ _ _ (by omega) (by omega) (by omega))⟩), ⟨(by omega), ⟨(fun c hc => match c, hc with | 0, _ => (by kernel_rfl) | 1, _ => (by kernel_rfl) | 2, _ => (by kernel_rfl) | 3, _ => (by kernel_rfl) | 4, _ => (by kernel_rfl) | 5, _ => (by kernel_rfl) | 6, _ => (by kernel_rfl) | 7, _ => (by kernel_rfl) ), ⟨fun _ => ?_, fun h => (nomatch h)⟩⟩⟩⟩⟩⟩⟩⟩⟩⟩⟩
      refine (retQ_le (retQ_drop _ _ rfl trivial ⟨⟨⟨trivial, trivial⟩, trivial⟩, trivial⟩ rfl) (Le.tup (fun j hj => match j, hj with | 0, _ => Le.nil_auto | 1, _ => (Le.of_eq (by kernel_rfl)) | 2, _ => (Le.of_eq (by kernel_rfl)) )))
    | true =>
      obtain ⟨old, hold⟩ : ∃ old, planOf hv.l x.l.length = old := ⟨_, rfl⟩
      have ho : fitP old := by rw [← hold]; exact fit_planned hx hpl
      have hl : ∀ c ∈ clausesOf x gl.l, thereC x gl.l c := fun c hc => there_all hc
      have hll : (clausesOf x gl.l).length < 1000000 := cls_len hx hg4
      have hc : Does Try.prog R 53 [encMkt x gl, encC ⟨clausesOf x gl.l, .auto⟩, .fn 64 0 (nth []) 2 (nth [.ref 6 0, .ref 3 0]), .fn 65 0 (nth []) 5 (nth [.ref 1 0, .ref 0 0, .ref 6 0, .ref 7 0, .ref 3 0])] (hpC x gl old ⟨[], [], (x.l.length : Int) + 1⟩) g (.ret (.tup 0 (nth []))) (hpC x gl old (nearP x gl.l old)) g :=
        each_fn x gl ⟨clausesOf x gl.l, .auto⟩ hx hgl hl hll (fun b => okE b.es old) (wnN old) (fdN x gl.l old) R (hpC x gl old) (fun _ => g) (fun _ _ => rfl) (by kernel_rfl) (by kernel_rfl)
          (fun b p m he hp hm => Closest2 R x gl old b p m g (by omega) (fit_in hx hp hm) ho he)
          (fun b p he hp => Closest3 R x gl old b p g (fit_in hx hp (Nat.le_refl _)) ho he hx1 h8 hp (formed_wfN hx hp) (formed_wfB hx hp) (formed_smallN hx hp) (formed_smallB hx hp) hg hgl)
          (fun b p m he hp hm => okE_put he (fit_in hx hp hm) ho) (fun b p he hp => by
            show okE (if _ then _ else _ : NearS).es old
            split
            · exact okE_put he (fit_in hx hp (Nat.le_refl _)) ho
            · exact he) _ (fun e he => absurd he (by simp))
      rw [← hold] at hc
      have hc : Does Try.prog R 53 [encMkt x gl, encC ⟨clausesOf x gl.l, .auto⟩, .fn 64 0 (nth []) 2 (nth [.ref 6 0, .ref 3 0]), .fn 65 0 (nth []) 5 (nth [.ref 1 0, .ref 0 0, .ref 6 0, .ref 7 0, .ref 3 0])]
          [.cells false 1 (nth [encPacks x]), .cells false 2 (nth [encPacks x, encR gl]), .cells false 8 (fun a => .int .i64 (planOf hv.l x.l.length a)), .cells false 1 (nth [.int .i64 ((x.l.length : Int) + 1)]), .map [], .cells false 1 (nth [.mp 4]), .cells false 1 (nth [.fn 63 0 (nth []) 2 (nth [.ref 2 0, .ref 5 0])]), .cells false 1 (fun _ => .fz .nil 0 0 (fun _ _ => .any))] g (.ret (.tup 0 (nth []))) (hpC x gl (planOf hv.l x.l.length) (nearP x gl.l (planOf hv.l x.l.length))) g :=
        does_pre hc ⟨LeO.rflc, LeO.rflc, LeO.rflc, LeO.rflc, rfl, LeO.rflc, LeO.rflc, LeO.box rfl Le.nil_auto, trivial⟩
      have ha : nearR x gl.l hv.l = if Nat.beq (nearP x gl.l (planOf hv.l x.l.length)).out.length 0 then ([], 0, 5) else ((nearP x gl.l (planOf hv.l x.l.length)).out, (nearP x gl.l (planOf hv.l x.l.length)).best, 0) := by unfold nearR; rw [hck, hpl]; rfl
      obtain ⟨nb, hnb⟩ : ∃ nb, nearP x gl.l (planOf hv.l x.l.length) = nb := ⟨_, rfl⟩
      rw [hnb] at hc ha
      rw [ha]
      cases hb : Nat.beq nb.out.length 0 with
      | true =>
        rw [if_pos rfl]
        refine spec_of_wp (nt := 47) (rs := [.tmp 6, .tmp 7, .tmp 8]) (k0 := 0) (by kernel_rfl) (by kernel_rfl) (by kernel_rfl) rfl ?_
        refine vcQ [] (lkL [(0, [1, 2, 3]), (1, [1, 2, 3, 19]), (2, [6, 7, 8]), (3, [2, 3, 9]), (4, [3, 9, 10, 11]), (5, [3, 9, 10, 30]), (6, [6, 7, 8]), (7, [3, 9, 10, 12]), (8, [3, 9, 10, 12, 13]), (9, [3, 9, 12, 14]), (10, [3, 9, 12, 14, 15]), (11, [12, 15]), (12, [12, 15, 44]), (13, [6, 7, 8]), (14, [6, 7, 8])]) (lkL [(1, [(2, ROrc.pcall (int i64 0))]), (3, [(4, ROrc.val (Orc.obj (nth [encPacks x, encR gl])))]), (4, [(2, ROrc.pcall (tup 2 (nth [encPlan (planOf hv.l (List.length x.l)), AV.bool true]))), (7, ROrc.val (Orc.obj fun (j : Nat) => int i64 (planOf hv.l (List.length x.l) j)))]), (7, [(5, ROrc.val (Orc.obj (nth [int i64 ((↑(List.length x.l) : Int) + 1)])))]), (8, [(0, ROrc.own (AV.mp 4) [cells false 1 (nth [encPacks x]), cells false 2 (nth [encPacks x, encR gl]), cells false 8 fun (a : Nat) => int i64 (planOf hv.l (List.length x.l) a), cells false 1 (nth [int i64 ((↑(List.length x.l) : Int) + 1)]), AObj.map []] g), (2, ROrc.val (Orc.obj (nth [AV.mp 4])))]), (9, [(2, ROrc.val (Orc.obj (nth [fn 63 0 (nth []) 2 (nth [ref 2 0, ref 5 0])])))]), (11, [(2, ROrc.pcall (encC (KL.mk (clausesOf x gl.l) Fz.auto))), (5, ROrc.callS (tup 0 (nth [])) [(3, cells false 1 (nth [int i64 nb.best])), (4, AObj.map (mapE nb.es)), (7, cells false 1 (nth [encI (KL.mk nb.out Fz.auto)]))] g)])]) (fun (Q : AEx → St R.σ → Prop) => 1 ≤ 1 ∧ (∀ (hp : List AObj) (g : R.σ), true = true ∧ Does Try.prog R 11 [encIx x, encR gl] hp g (ret (int i64 0)) hp g) ∧ (false = true → Q AEx.ret (St.mk [(6, fz Fz.nil 0 0 fun (x x_2 : Nat) => any), (7, int i64 0), (8, int i64 2)] [cells false 1 (nth [encPacks x])] g)) ∧ (false = false → 1 ≤ 1 ∧ 2 ≤ 2 ∧ (∀ (c : Nat), c < 2 → nth [encPacks x, encR gl] c = over (nth [fz Fz.nil 0 0 fun (x x_2 : Nat) => any, fz Fz.nil 0 0 fun (x x_2 : Nat) => any]) 0 2 (List.brecOn (motive := fun (x : List AV) => Nat → AV) [encPacks x, encR gl] nth._f) c) ∧ 2 ≤ 2 ∧ (∀ (hp : List AObj) (g : R.σ), true = true ∧ Does Try.prog R 46 [encMkt x gl, encI hv] hp g (ret (tup 2 (nth [encPlan (planOf hv.l (List.length x.l)), AV.bool true]))) hp g) ∧ 8 ≤ 8 ∧ (∀ (c : Nat), c < 8 → int i64 (planOf hv.l (List.length x.l) c) = over (nth [int i64 0, int i64 0, int i64 0, int i64 0, int i64 0, int i64 0, int i64 0, int i64 0]) 0 8 (fun (j : Nat) => int i64 (planOf hv.l (List.length x.l) j)) c) ∧ (false = true → Q AEx.ret (St.mk [(6, fz Fz.nil 0 0 fun (x x_3 : Nat) => any), (7, int i64 0), (8, int i64 2)] [cells false 1 (nth [encPacks x]), cells false 2 (nth [encPacks x, encR gl]), cells false 8 fun (j : Nat) => int i64 (planOf hv.l (List.length x.l) j)] g)) ∧ (false = false → 1 ≤ 1 ∧ (-9223372036854775808 ≤ (↑(List.length x.l) : Int) + 1 ∧ (↑(List.length x.l) : Int) + 1 ≤ 9223372036854775807) ∧ 1 ≤ 1 ∧ (∀ (c : Nat), c < 1 → nth [int i64 ((↑(List.length x.l) : Int) + 1)] c = over (fun (a : Nat) => int i64 0) 0 1 (fun (x_3 : Nat) => int i64 ((↑(List.length x.l) : Int) + 1)) c) ∧ OpOk Try.prog R (Oper.mk (some 35) (Op.makeMap 101 none) 101 "plan.go:148" #[] none) (evO [] [(3, ref 0 0), (9, ref 1 0), (10, ref 2 0), (12, ref 3 0)] []) [cells false 1 (nth [encPacks x]), cells false 2 (nth [encPacks x, encR gl]), cells false 8 fun (j : Nat) => int i64 (planOf hv.l (List.length x.l) j), cells false 1 (nth [int i64 ((↑(List.length x.l) : Int) + 1)])] g (AV.mp 4) [cells false 1 (nth [encPacks x]), cells false 2 (nth [encPacks x, encR gl]), cells false 8 fun (a : Nat) => int i64 (planOf hv.l (List.length x.l) a), cells false 1 (nth [int i64 ((↑(List.length x.l) : Int) + 1)]), AObj.map []] g ∧ 1 ≤ 1 ∧ (∀ (c : Nat), c < 1 → nth [AV.mp 4] c = over (fun (a : Nat) => AV.nilm) 0 1 (fun (x : Nat) => AV.mp 4) c) ∧ 1 ≤ 1 ∧ (∀ (c : Nat), c < 1 → nth [fn 63 0 (nth []) 2 (nth [ref 2 0, ref 5 0])] c = over (fun (a : Nat) => AV.nilf) 0 1 (fun (x : Nat) => fn 63 0 (nth []) 2 (nth [ref 2 0, ref 5 0])) c) ∧ Tables.follows Try.prog.toTables Departure.mixedOrders = true ∧ 2 ≤ 2 ∧ 2 ≤ 2 ∧ (∀ (hp : List AObj) (g : R.σ), true = true ∧ Does Try.prog R 54 [encMkt x gl] hp g (ret (fz Fz.auto 4 (List.length (clausesOf x gl.l)) fun (i : Nat) => clC (List.getD (clausesOf x gl.l) i default))) hp g) ∧ (true = true ∧ Does Try.prog R 53 [encMkt x gl, fz Fz.auto 4 (List.length (clausesOf x gl.l)) fun (i : Nat) => clC (List.getD (clausesOf x gl.l) i default), fn 64 0 (nth []) 2 (nth [ref 6 0, ref 3 0]), fn 65 0 (nth []) 5 (nth [ref 1 0, ref 0 0, ref 6 0, ref 7 0, ref 3 0])] [cells false 1 (nth [encPacks x]), cells false 2 (nth [encPacks x, encR gl]), cells false 8 fun (a : Nat) => int i64 (planOf hv.l (List.length x.l) a), cells false 1 (nth [int i64 ((↑(List.length x.l) : Int) + 1)]), AObj.map [], cells false 1 (nth [AV.mp 4]), cells false 1 (nth [fn 63 0 (nth []) 2 (nth [ref 2 0, ref 5 0])]), cells false 1 fun (a : Nat) => fz Fz.nil 0 0 fun (x x_3 : Nat) => any] g (ret (tup 0 (nth []))) [cells false 1 (nth [encPacks x]), cells false 2 (nth [encPacks x, encR gl]), cells false 8 fun (a : Nat) => int i64 (planOf hv.l (List.length x.l) a), cells false 1 (nth [int i64 nb.best]), AObj.map (mapE nb.es), cells false 1 (nth [AV.mp 4]), cells false 1 (nth [fn 63 0 (nth []) 2 (nth [ref 2 0, ref 5 0])]), cells false 1 (nth [fz Fz.auto 1 (List.length nb.out) fun (i x : Nat) => int i64 (List.getD nb.out i 0)])] g) ∧ 1 ≤ 1 ∧ (Nat.beq (List.length nb.out) 0 = true → Q AEx.ret (St.mk [(6, fz Fz.nil 0 0 fun (x x_4 : Nat) => any), (7, int i64 0), (8, int i64 5)] [cells false 1 (nth [encPacks x]), cells false 2 (nth [encPacks x, encR gl]), cells false 8 fun (a : Nat) => int i64 (planOf hv.l (List.length x.l) a), cells false 1 (nth [int i64 nb.best]), AObj.map (mapE nb.es), cells false 1 (nth [AV.mp 4]), cells false 1 (nth [fn 63 0 (nth []) 2 (nth [ref 2 0, ref 5 0])]), cells false 1 (nth [fz Fz.auto 1 (List.length nb.out) fun (i x : Nat) => int i64 (List.getD nb.out i 0)])] g)) ∧ (Nat.beq (List.length nb.out) 0 = false → Tables.follows Try.prog.toTables Departure.mixedOrders = true ∧ 1 ≤ 1 ∧ 1 ≤ 1 ∧ Q AEx.ret (St.mk [(6, fz Fz.auto 1 (List.length nb.out) fun (i x : Nat) => int i64 (List.getD nb.out i 0)), (7, int i64 nb.best), (8, int i64 0)] [cells false 1 (nth [encPacks x]), cells false 2 (nth [encPacks x, encR gl]), cells false 8 fun (a : Nat) => int i64 (planOf hv.l (List.length x.l) a), cells false 1 (nth [int i64 nb.best]), AObj.map (mapE nb.es), cells false 1 (nth [AV.mp 4]), cells false 1 (nth [fn 63 0 (nth []) 2 (nth [ref 2 0, ref 5 0])]), cells false 1 (nth [fz Fz.auto 1 (List.length nb.out) fun (i x : Nat) => int i64 (List.getD nb.out i 0)])] g))))) (fun _ => by kernel_rfl) ⟨(by omega), ⟨(fun _ _ => ⟨rfl, (Go.Avm.Pack.c_Check_t _ _ _ _ _ (by omega) (by omega) (by omega))⟩), ⟨fun h => (nomatch h), fun _ => ⟨(by omega), ⟨(by omega), ⟨(fun c hc => match c, hc with | 0, _ => (by kernel_rfl) | 1, _ => (by kernel_rfl) ), ⟨(by omega), ⟨(fun _ _ => ⟨rfl, (Go.Avm.Pack.c_planned_t _ _ _ _ _ _ (by omega) (by omega) (by omega))⟩), ⟨(by omega), ⟨(fun c hc => match c, hc with | 0, _ => (by kernel_rfl) | 1, _ => (by kernel_rfl) | 2, _ => (by kernel_rfl) | 3, _ => (by kernel_rfl) | 4, _ => (by kernel_rfl) | 5, _ => (by kernel_rfl) | 6, _ => (by kernel_rfl) | 7, _ => (by kernel_rfl) ), ⟨fun h => (nomatch h), fun _ => ⟨(by omega), ⟨(by omega), ⟨(by omega), ⟨(fun c hc => match c, hc with | 0, _ => (by kernel_rfl) ), ⟨?_, ⟨(by omega), ⟨(fun c hc => match c, hc with | 0, _ => (by kernel_rfl) ), ⟨(by omega), ⟨(fun c hc => match c, hc with | 0, _ => (by kernel_rfl) ), ⟨(by kernel_rfl), ⟨(by omega), ⟨(by omega), ⟨(fun _ _ => ⟨rfl, (Go.Avm.Pack.c_clausesF _ _ _ _ _ (by omega) (by omega) (by omega))⟩), ⟨⟨rfl, (hc)⟩, ⟨(by omega), ⟨fun _ => ?_, fun hcc => (nomatch (hb.symm.trans hcc))⟩⟩⟩⟩⟩⟩⟩⟩⟩⟩⟩⟩⟩⟩⟩⟩⟩⟩⟩⟩⟩⟩⟩⟩⟩⟩⟩
        · exact opOk_makeMap (t := 101) rfl
        · refine (retQ_le (retQ_drop _ _ rfl trivial ⟨⟨⟨trivial, trivial⟩, trivial⟩, trivial⟩ rfl) (Le.tup (fun j hj => match j, hj with | 0, _ => Le.nil_auto | 1, _ => (Le.of_eq (by kernel_rfl)) | 2, _ => (Le.of_eq (by kernel_rfl)) )))
      | false =>
        rw [if_neg (by decide)]
        refine spec_of_wp (nt := 47) (rs := [.tmp 6, .tmp 7, .tmp 8]) (k0 := 0) (by kernel_rfl) (by kernel_rfl) (by kernel_rfl) rfl ?_
        refine vcQ [] (lkL [(0, [1, 2, 3]), (1, [1, 2, 3, 19]), (2, [6, 7, 8]), (3, [2, 3, 9]), (4, [3, 9, 10, 11]), (5, [3, 9, 10, 30]), (6, [6, 7, 8]), (7, [3, 9, 10, 12]), (8, [3, 9, 10, 12, 13]), (9, [3, 9, 12, 14]), (10, [3, 9, 12, 14, 15]), (11, [12, 15]), (12, [12, 15, 44]), (13, [6, 7, 8]), (14, [6, 7, 8])]) (lkL [(1, [(2, ROrc.pcall (int i64 0))]), (3, [(4, ROrc.val (Orc.obj (nth [encPacks x, encR gl])))]), (4, [(2, ROrc.pcall (tup 2 (nth [encPlan (planOf hv.l (List.length x.l)), AV.bool true]))), (7, ROrc.val (Orc.obj fun (j : Nat) => int i64 (planOf hv.l (List.length x.l) j)))]), (7, [(5, ROrc.val (Orc.obj (nth [int i64 ((↑(List.length x.l) : Int) + 1)])))]), (8, [(0, ROrc.own (AV.mp 4) [cells false 1 (nth [encPacks x]), cells false 2 (nth [encPacks x, encR gl]), cells false 8 fun (a : Nat) => int i64 (planOf hv.l (List.length x.l) a), cells false 1 (nth [int i64 ((↑(List.length x.l) : Int) + 1)]), AObj.map []] g), (2, ROrc.val (Orc.obj (nth [AV.mp 4])))]), (9, [(2, ROrc.val (Orc.obj (nth [fn 63 0 (nth []) 2 (nth [ref 2 0, ref 5 0])])))]), (11, [(2, ROrc.pcall (encC (KL.mk (clausesOf x gl.l) Fz.auto))), (5, ROrc.callS (tup 0 (nth [])) [(3, cells false 1 (nth [int i64 nb.best])), (4, AObj.map (mapE nb.es)), (7, cells false 1 (nth [encI (KL.mk nb.out Fz.auto)]))] g)])]) (fun (Q : AEx → St R.σ → Prop) => 1 ≤ 1 ∧ (∀ (hp : List AObj) (g : R.σ), true = true ∧ Does Try.prog R 11 [encIx x, encR gl] hp g (ret (int i64 0)) hp g) ∧ (false = true → Q AEx.ret (St.mk [(6, fz Fz.nil 0 0 fun (x x_2 : Nat) => any), (7, int i64 0), (8, int i64 2)] [cells false 1 (nth [encPacks x])] g)) ∧ (false = false → 1 ≤ 1 ∧ 2 ≤ 2 ∧ (∀ (c : Nat), c < 2 → nth [encPacks x, encR gl] c = over (nth [fz Fz.nil 0 0 fun (x x_2 : Nat) => any, fz Fz.nil 0 0 fun (x x_2 : Nat) => any]) 0 2 (List.brecOn (motive := fun (x : List AV) => Nat → AV) [encPacks x, encR gl] nth._f) c) ∧ 2 ≤ 2 ∧ (∀ (hp : List AObj) (g : R.σ), true = true ∧ Does Try.prog R 46 [encMkt x gl, encI hv] hp g (ret (tup 2 (nth [encPlan (planOf hv.l (List.length x.l)), AV.bool true]))) hp g) ∧ 8 ≤ 8 ∧ (∀ (c : Nat), c < 8 → int i64 (planOf hv.l (List.length x.l) c) = over (nth [int i64 0, int i64 0, int i64 0, int i64 0, int i64 0, int i64 0, int i64 0, int i64 0]) 0 8 (fun (j : Nat) => int i64 (planOf hv.l (List.length x.l) j)) c) ∧ (false = true → Q AEx.ret (St.mk [(6, fz Fz.nil 0 0 fun (x x_3 : Nat) => any), (7, int i64 0), (8, int i64 2)] [cells false 1 (nth [encPacks x]), cells false 2 (nth [encPacks x, encR gl]), cells false 8 fun (j : Nat) => int i64 (planOf hv.l (List.length x.l) j)] g)) ∧ (false = false → 1 ≤ 1 ∧ (-9223372036854775808 ≤ (↑(List.length x.l) : Int) + 1 ∧ (↑(List.length x.l) : Int) + 1 ≤ 9223372036854775807) ∧ 1 ≤ 1 ∧ (∀ (c : Nat), c < 1 → nth [int i64 ((↑(List.length x.l) : Int) + 1)] c = over (fun (a : Nat) => int i64 0) 0 1 (fun (x_3 : Nat) => int i64 ((↑(List.length x.l) : Int) + 1)) c) ∧ OpOk Try.prog R (Oper.mk (some 35) (Op.makeMap 101 none) 101 "plan.go:148" #[] none) (evO [] [(3, ref 0 0), (9, ref 1 0), (10, ref 2 0), (12, ref 3 0)] []) [cells false 1 (nth [encPacks x]), cells false 2 (nth [encPacks x, encR gl]), cells false 8 fun (j : Nat) => int i64 (planOf hv.l (List.length x.l) j), cells false 1 (nth [int i64 ((↑(List.length x.l) : Int) + 1)])] g (AV.mp 4) [cells false 1 (nth [encPacks x]), cells false 2 (nth [encPacks x, encR gl]), cells false 8 fun (a : Nat) => int i64 (planOf hv.l (List.length x.l) a), cells false 1 (nth [int i64 ((↑(List.length x.l) : Int) + 1)]), AObj.map []] g ∧ 1 ≤ 1 ∧ (∀ (c : Nat), c < 1 → nth [AV.mp 4] c = over (fun (a : Nat) => AV.nilm) 0 1 (fun (x : Nat) => AV.mp 4) c) ∧ 1 ≤ 1 ∧ (∀ (c : Nat), c < 1 → nth [fn 63 0 (nth []) 2 (nth [ref 2 0, ref 5 0])] c = over (fun (a : Nat) => AV.nilf) 0 1 (fun (x : Nat) => fn 63 0 (nth []) 2 (nth [ref 2 0, ref 5 0])) c) ∧ Tables.follows Try.prog.toTables Departure.mixedOrders = true ∧ 2 ≤ 2 ∧ 2 ≤ 2 ∧ (∀ (hp : List AObj) (g : R.σ), true = true ∧ Does Try.prog R 54 [encMkt x gl] hp g (ret (fz Fz.auto 4 (List.length (clausesOf x gl.l)) fun (i : Nat) => clC (List.getD (clausesOf x gl.l) i default))) hp g) ∧ (true = true ∧ Does Try.prog R 53 [encMkt x gl, fz Fz.auto 4 (List.length (clausesOf x gl.l)) fun (i : Nat) => clC (List.getD (clausesOf x gl.l) i default), fn 64 0 (nth []) 2 (nth [ref 6 0, ref 3 0]), fn 65 0 (nth []) 5 (nth [ref 1 0, ref 0 0, ref 6 0, ref 7 0, ref 3 0])] [cells false 1 (nth [encPacks x]), cells false 2 (nth [encPacks x, encR gl]), cells false 8 fun (a : Nat) => int i64 (planOf hv.l (List.length x.l) a), cells false 1 (nth [int i64 ((↑(List.length x.l) : Int) + 1)]), AObj.map [], cells false 1 (nth [AV.mp 4]), cells false 1 (nth [fn 63 0 (nth []) 2 (nth [ref 2 0, ref 5 0])]), cells false 1 fun (a : Nat) => fz Fz.nil 0 0 fun (x x_3 : Nat) => any] g (ret (tup 0 (nth []))) [cells false 1 (nth [encPacks x]), cells false 2 (nth [encPacks x, encR gl]), cells false 8 fun (a : Nat) => int i64 (planOf hv.l (List.length x.l) a), cells false 1 (nth [int i64 nb.best]), AObj.map (mapE nb.es), cells false 1 (nth [AV.mp 4]), cells false 1 (nth [fn 63 0 (nth []) 2 (nth [ref 2 0, ref 5 0])]), cells false 1 (nth [fz Fz.auto 1 (List.length nb.out) fun (i x : Nat) => int i64 (List.getD nb.out i 0)])] g) ∧ 1 ≤ 1 ∧ (Nat.beq (List.length nb.out) 0 = true → Q AEx.ret (St.mk [(6, fz Fz.nil 0 0 fun (x x_4 : Nat) => any), (7, int i64 0), (8, int i64 5)] [cells false 1 (nth [encPacks x]), cells false 2 (nth [encPacks x, encR gl]), cells false 8 fun (a : Nat) => int i64 (planOf hv.l (List.length x.l) a), cells false 1 (nth [int i64 nb.best]), AObj.map (mapE nb.es), cells false 1 (nth [AV.mp 4]), cells false 1 (nth [fn 63 0 (nth []) 2 (nth [ref 2 0, ref 5 0])]), cells false 1 (nth [fz Fz.auto 1 (List.length nb.out) fun (i x : Nat) => int i64 (List.getD nb.out i 0)])] g)) ∧ (Nat.beq (List.length nb.out) 0 = false → Tables.follows Try.prog.toTables Departure.mixedOrders = true ∧ 1 ≤ 1 ∧ 1 ≤ 1 ∧ Q AEx.ret (St.mk [(6, fz Fz.auto 1 (List.length nb.out) fun (i x : Nat) => int i64 (List.getD nb.out i 0)), (7, int i64 nb.best), (8, int i64 0)] [cells false 1 (nth [encPacks x]), cells false 2 (nth [encPacks x, encR gl]), cells false 8 fun (a : Nat) => int i64 (planOf hv.l (List.length x.l) a), cells false 1 (nth [int i64 nb.best]), AObj.map (mapE nb.es), cells false 1 (nth [AV.mp 4]), cells false 1 (nth [fn 63 0 (nth []) 2 (nth [ref 2 0, ref 5 0])]), cells false 1 (nth [fz Fz.auto 1 (List.length nb.out) fun (i x : Nat) => int i64 (List.getD nb.out i 0)])] g))))) (fun _ => by kernel_rfl) ⟨(by omega), ⟨(fun _ _ => ⟨rfl, (Go.Avm.Pack.c_Check_t _ _ _ _ _ (by omega) (by omega) (by omega))⟩), ⟨fun h => (nomatch h), fun _ => ⟨(by omega), ⟨(by omega), ⟨(fun c hc => match c, hc with | 0, _ => (by kernel_rfl) | 1, _ => (by kernel_rfl) ), ⟨(by omega), ⟨(fun _ _ => ⟨rfl, (Go.Avm.Pack.c_planned_t _ _ _ _ _ _ (by omega) (by omega) (by omega))⟩), ⟨(by omega), ⟨(fun c hc => match c, hc with | 0, _ => (by kernel_rfl) | 1, _ => (by kernel_rfl) | 2, _ => (by kernel_rfl) | 3, _ => (by kernel_rfl) | 4, _ => (by kernel_rfl) | 5, _ => (by kernel_rfl) | 6, _ => (by kernel_rfl) | 7, _ => (by kernel_rfl) ), ⟨fun h => (nomatch h), fun _ => ⟨(by omega), ⟨(by omega), ⟨(by omega), ⟨(fun c hc => match c, hc with | 0, _ => (by kernel_rfl) ), ⟨?_, ⟨(by omega), ⟨(fun c hc => match c, hc with | 0, _ => (by kernel_rfl) ), ⟨(by omega), ⟨(fun c hc => match c, hc with | 0, _ => (by kernel_rfl) ), ⟨(by kernel_rfl), ⟨(by omega), ⟨(by omega), ⟨(fun _ _ => ⟨rfl, (Go.Avm.Pack.c_clausesF _ _ _ _ _ (by omega) (by omega) (by omega))⟩), ⟨⟨rfl, (hc)⟩, ⟨(by omega), ⟨fun hcc => (nomatch (hb.symm.trans hcc)), fun _ => ⟨(by kernel_rfl), ⟨(by omega), ⟨(by omega), ?_⟩⟩⟩⟩⟩⟩⟩⟩⟩⟩⟩⟩⟩⟩⟩⟩⟩⟩⟩⟩⟩⟩⟩⟩⟩⟩⟩⟩⟩⟩
        · exact opOk_makeMap (t := 101) rfl
        · refine (retQ_le (retQ_drop _ _ rfl trivial ⟨⟨⟨trivial, trivial⟩, trivial⟩, trivial⟩ rfl) (Le.of_eq (by kernel_rfl)))
end Go.Avm.Pack
namespace Go.Avm.Pack
open Go Go.Avm Go.Proofs
open Go.IntKind (i64 u64)
open Go.Avm.AV (int bool any fz fp sl ow ref fn ifc val agg tup)
open Go.Avm.AObj (cells dead)
open Go.Avm.Oc (ret)
set_option maxRecDepth 4000

theorem planOf_set {pl : List Int} {m : Nat} {v : Int} (hm : m < pl.length) : updP (planOf pl m) m v = planOf (pl.set m v) (m + 1) := by
  funext j
  unfold updP planOf
  by_cases h : j = m
  · subst h
    rw [if_pos rfl, if_pos (by omega), set_getD hm, if_pos rfl]
  · rw [if_neg h]
    by_cases h2 : j < m
    · rw [if_pos h2, if_pos (by omega), set_getD (by omega), if_neg h]
    · rw [if_neg h2, if_neg (by omega)]
theorem planOf_zero (pl : List Int) : planOf pl 0 = fun _ => 0 := by
  funext j; unfold planOf; rw [if_neg (by omega)]
theorem metB_congr {p q : Nat → Int} {r : Rng} {m : Nat} (h : ∀ j, j < m → p j = q j) (h0 : 0 ≤ r.pack) (hm : r.pack < m) : metB p r = metB q r := by
  unfold metB; rw [h _ (by omega)]
theorem formed_need {x : Ix} (hx : formedB x = true) {i k w : Nat} (hi : i < x.l.length) (hk : k < (x.l.getD i default).l.length) : (w < ((x.l.getD i default).l.getD k default).needs.l.length → 0 ≤ (((x.l.getD i default).l.getD k default).needs.l.getD w default).pack) ∧ (w < ((x.l.getD i default).l.getD k default).bars.l.length → 0 ≤ (((x.l.getD i default).l.getD k default).bars.l.getD w default).pack) := by
  have h := formed_rel hx hi hk
  rw [relB_eq, Bool.and_eq_true] at h
  unfold rangesB at h
  rw [Bool.and_eq_true, Bool.and_eq_true] at h
  refine ⟨fun hw => ?_, fun hw => ?_⟩
  · have := List.all_eq_true.1 h.1.2 _ (getD_mem _ default hw)
    unfold otherB at this
    rw [Bool.and_eq_true] at this
    exact (ranged_pack this.1).1
  · have := List.all_eq_true.1 h.2.2 _ (getD_mem _ default hw)
    unfold otherB at this
    rw [Bool.and_eq_true] at this
    exact (ranged_pack this.1).1
theorem broken_congr {x : Ix} {gl : List Rng} (hx : formedB x = true) (hgl : ∀ r ∈ gl, 0 ≤ r.pack ∧ r.pack < x.l.length) {c : Clause} (hc : thereC x gl c) {p q : Nat → Int} {m : Nat} (h : ∀ j, j < m → p j = q j) : brokenB x gl c p m = brokenB x gl c q m := by
  have key : ∀ r : Rng, 0 ≤ r.pack → (decide (r.pack < (m : Int)) && !(metB p r)) = (decide (r.pack < (m : Int)) && !(metB q r)) ∧ (decide (r.pack < (m : Int)) && metB p r) = (decide (r.pack < (m : Int)) && metB q r) := fun r h0 => by
    by_cases hm : r.pack < (m : Int)
    · rw [metB_congr h h0 hm]; exact ⟨rfl, rfl⟩
    · rw [decide_eq_false hm]; exact ⟨rfl, rfl⟩
  unfold brokenB
  by_cases h1 : c.pack = -1
  · rw [if_pos h1, if_pos h1]
    rcases hc with hc | hc
    · exact (key _ (hgl _ (getD_mem _ default (by omega))).1).1
    · omega
  · rw [if_neg h1, if_neg h1]
    rcases hc with hc | ⟨c1, c2, c3, c4, c5, c6, c7⟩
    · exact absurd hc.1 h1
    · by_cases h2 : c.pack ≥ (m : Int)
      · rw [if_pos (.inl h2), if_pos (.inl h2)]
      · rw [h _ (by omega)]
        by_cases h3 : q c.pack.toNat ≠ c.rel
        · rw [if_pos (.inr h3), if_pos (.inr h3)]
        · have h3' : ¬ (c.pack ≥ (m : Int) ∨ q c.pack.toNat ≠ c.rel) := fun h => h.elim h2 h3
          rw [if_neg h3', if_neg h3']
          have hn := fun w => formed_need hx (i := c.pack.toNat) (k := c.rel.toNat) (w := w) (by omega) (by omega)
          cases hb : c.bar with
          | true =>
            simp only [if_true]
            exact (key _ ((hn c.which.toNat).2 (by have := c6 hb; omega))).2
          | false =>
            simp only [Bool.false_eq_true, if_false]
            exact (key _ ((hn c.which.toNat).1 (by have := c7 hb; omega))).1
theorem any_congr' {α : Type} {p q : α → Bool} : ∀ {l : List α}, (∀ a ∈ l, p a = q a) → l.any p = l.any q
  | [], _ => rfl
  | a :: l, h => by
    rw [List.any_cons, List.any_cons, h a List.mem_cons_self, any_congr' (fun b hb => h b (List.mem_cons_of_mem _ hb))]
theorem brk_plan {x : Ix} {gl : List Rng} (hx : formedB x = true) (hgl : ∀ r ∈ gl, 0 ≤ r.pack ∧ r.pack < x.l.length) {l : List Clause} (hl : ∀ c ∈ l, thereC x gl c) {pl : List Int} {m n : Nat} (hm : m ≤ n) : brkB x gl l (planOf pl m) m = brkB x gl l (planOf pl n) m :=
  any_congr' (fun c hc => broken_congr hx hgl (hl c hc) (fun j hj => by unfold planOf; rw [if_pos hj, if_pos (by omega)]))
theorem planL_planOf {pl : List Int} {n : Nat} (h : pl.length = n) : planL (planOf pl n) n = pl := by
  refine List.ext_getElem (by rw [planL_len, h]) (fun i h1 h2 => ?_)
  have e1 := planL_getD (p := planOf pl n) (n := n) (i := i) (by omega)
  rw [planOf_lt (by omega)] at e1
  rw [List.getD_eq_getElem?_getD, List.getD_eq_getElem?_getD, List.getElem?_eq_getElem h1, List.getElem?_eq_getElem h2] at e1
  exact e1
theorem look_ne {x : Ix} {gl : List Rng} {p : Nat → Int} {f i : Int} (h : lookR x gl p = some (f, i)) : f ≠ 0 := by
  unfold lookR at h
  split at h
  · cases h; decide
  · split at h
    · cases h; decide
    · split at h
      · cases h; decide
      · split at h
        · cases h; decide
        · cases h
theorem fine_iff (x : Ix) (gl : List Rng) (p : Nat → Int) : fineB x gl p = ((faultOf x gl p).1 == 0) := by
  unfold fineB faultOf
  cases h : lookR x gl p with
  | none => rfl
  | some y =>
    obtain ⟨f, i⟩ := y
    have := look_ne h
    show (f == 0 && _) = (f == 0)
    rw [beq_eq_false_iff_ne.2 this]; rfl
end Go.Avm.Pack
namespace Go.Avm.Pack
open Go Go.Avm Go.Proofs
open Go.IntKind (i64 u64)
open Go.Avm.AV (int bool any fz fp sl ow ref fn ifc val agg tup)
open Go.Avm.AObj (cells dead)
open Go.Avm.Oc (ret)
set_option maxRecDepth 4000

theorem first_walk {β : Type} (x : Ix) (gl : List Rng) (l : List Clause) (hx : formedB x = true) (hgl : ∀ r ∈ gl, 0 ≤ r.pack ∧ r.pack < x.l.length) (hl : ∀ c ∈ l, thereC x gl c) (right : Bool) (e : List Int → β) (fd : β → (Nat → Int) → Bool × β)
    (hfd : ∀ pl, pl.length = x.l.length → fd (e []) (planOf pl x.l.length) = if right && !((faultOf x gl (planOf pl x.l.length)).1 == 0) then (true, e []) else (false, e pl)) :
    ∀ (k m : Nat), m + k = x.l.length → ∀ (pl : List Int) (f0 : Int), pl.length = x.l.length →
      eachR x gl l (fun b _ _ => (true, b)) fd k (e []) (planOf pl m) = (Nat.beq (fromR x gl l right [] k ([], f0) pl).1.length 0, e (fromR x gl l right [] k ([], f0) pl).1)
  | 0, m, hm, pl, f0, hpl => by
    have hm : m = x.l.length := by omega
    subst hm
    have h1 := (formed_le hx).1
    unfold eachR fromR
    cases hb : brkB x gl l (planOf pl x.l.length) x.l.length with
    | true => rfl
    | false =>
      simp only [Bool.false_eq_true, if_false, if_true]
      rw [hfd pl hpl]
      cases hr : (right && !((faultOf x gl (planOf pl x.l.length)).1 == 0)) with
      | true => rfl
      | false =>
        have hne : Nat.beq pl.length 0 = false := by
          cases h : pl.length with
          | zero => omega
          | succ n => rfl
        show (false, e pl) = (Nat.beq pl.length 0, e pl)
        rw [hne]
  | k + 1, m, hm, pl, f0, hpl => by
    have em : x.l.length - (k + 1) = m := by omega
    obtain ⟨N, hN⟩ : ∃ N, (x.l.getD m default).l.length = N := ⟨_, rfl⟩
    cases hb : brkB x gl l (planOf pl m) m with
    | true =>
      have hb2 := hb
      rw [brk_plan hx hgl hl (show m ≤ x.l.length by omega)] at hb2
      unfold eachR fromR
      rw [em, hb, hb2]
      rfl
    | false =>
      have hb2 := hb
      rw [brk_plan hx hgl hl (show m ≤ x.l.length by omega)] at hb2
      rw [fromR_succ em hN hb2]
      obtain ⟨S, hS⟩ : ∃ S, runR x gl l right [] k m N pl ([], f0) = S := ⟨_, rfl⟩
      rw [hS]
      obtain ⟨f, hf⟩ : ∃ f : β → Int → Bool × β, f = fun b v => eachR x gl l (fun b _ _ => (true, b)) fd k b (updP (planOf pl m) m v) := ⟨_, rfl⟩
      have e1 : eachR x gl l (fun b _ _ => (true, b)) fd (k + 1) (e []) (planOf pl m) = goN f (itemC N) (N + 1) (e []) := by
        unfold eachR
        rw [em, hb, hN, hf]
        rfl
      rw [e1]
      have hstep : ∀ j f1, f (e []) (itemC N j) = (Nat.beq (fromR x gl l right [] k ([], f1) (pl.set m (itemC N j))).1.length 0, e (fromR x gl l right [] k ([], f1) (pl.set m (itemC N j))).1) := fun j f1 => by
        rw [hf]
        show eachR x gl l _ fd k (e []) (updP (planOf pl m) m (itemC N j)) = _
        rw [planOf_set (by omega)]
        exact first_walk x gl l hx hgl hl right e fd hfd k (m + 1) (by omega) _ f1 (by simpa using hpl)
      have hgt : ∀ s : List Int × Int, s.1 = [] → grdB [] s = true := fun s h => by unfold grdB; rw [h]; rfl
      have hgf : ∀ s : List Int × Int, s.1 ≠ [] → grdB [] s = false := fun s h => by
        unfold grdB
        cases hs : s.1 with
        | nil => exact absurd hs h
        | cons a r => rfl
      have hsucc : ∀ j, S (j + 1) = if grdB [] (S j) then fromR x gl l right [] k (S j) (pl.set m (itemC N j)) else S j := fun j => by
        rw [← hS, runR_succ]; rfl
      have main : ∀ j, ((S j).1 = [] ∧ bK f (itemC N) (e []) j = e [] ∧ ∀ i, i < j → cK f (itemC N) (e []) i = true) ∨
          (∃ i, i < j ∧ (∀ i', i' < i → cK f (itemC N) (e []) i' = true) ∧ cK f (itemC N) (e []) i = false ∧ bK f (itemC N) (e []) (i + 1) = e (S j).1 ∧ (S j).1 ≠ []) := by
        intro j
        induction j with
        | zero => exact .inl ⟨by rw [← hS]; rfl, rfl, fun i hi => absurd hi (by omega)⟩
        | succ j ih =>
          rcases ih with ⟨h1, h2, h3⟩ | ⟨i, h1, h2, h3, h4, h5⟩
          · have es : S j = ([], (S j).2) := by rw [← h1]
            have hS1 : S (j + 1) = fromR x gl l right [] k ([], (S j).2) (pl.set m (itemC N j)) := by
              rw [hsucc, hgt _ h1, if_pos rfl]
              rw [← es]
            have hc : cK f (itemC N) (e []) j = Nat.beq (S (j + 1)).1.length 0 := by
              unfold cK; rw [h2, hstep j (S j).2, ← hS1]
            have hbk : bK f (itemC N) (e []) (j + 1) = e (S (j + 1)).1 := by
              show (f (bK f (itemC N) (e []) j) (itemC N j)).2 = _
              rw [h2, hstep j (S j).2, ← hS1]
            by_cases hn : (S (j + 1)).1 = []
            · refine .inl ⟨hn, by rw [hbk, hn], fun i hi => ?_⟩
              rcases Nat.lt_or_ge i j with h | h
              · exact h3 i h
              · have : i = j := by omega
                subst this
                rw [hc, hn]; rfl
            · refine .inr ⟨j, by omega, h3, ?_, hbk, hn⟩
              rw [hc]
              cases hs : (S (j + 1)).1 with
              | nil => exact absurd hs hn
              | cons a r => rfl
          · have hS1 : S (j + 1) = S j := by rw [hsucc, hgf _ h5]; rfl
            exact .inr ⟨i, by omega, h2, h3, by rw [hS1]; exact h4, by rw [hS1]; exact h5⟩
      rcases main (N + 1) with ⟨h1, h2, h3⟩ | ⟨i, h1, h2, h3, h4, h5⟩
      · rw [goN_all h3, h1, h2]; rfl
      · rw [goN_at h2 h1 h3, h4]
        cases hs : (S (N + 1)).1 with
        | nil => exact absurd hs h5
        | cons a r => rfl
theorem planL_none (x : Ix) : (planL (fun _ => -1) x.l.length).length = x.l.length := planL_len _ _
theorem best_eq {x : Ix} {gl : List Rng} (hx : formedB x = true) (hgl : ∀ r ∈ gl, 0 ≤ r.pack ∧ r.pack < x.l.length) : bestP x gl = (searchR x gl (clausesOf x gl) true []).1 := by
  have h := first_walk x gl (clausesOf x gl) hx hgl (fun c hc => there_all hc) true (fun l => l) (fun b p => (Nat.beq (bestO x gl b p).length 0, bestO x gl b p)) (fun pl hpl => ?_) x.l.length 0 (by omega) (planL (fun _ => -1) x.l.length) 0 (planL_none x)
  · rw [planOf_zero] at h
    unfold bestP searchR
    rw [h]
  · show (Nat.beq (bestO x gl [] (planOf pl x.l.length)).length 0, bestO x gl [] (planOf pl x.l.length)) = _
    unfold bestO
    rw [fine_iff, planL_planOf hpl]
    cases hf : ((faultOf x gl (planOf pl x.l.length)).1 == 0) with
    | true =>
      have h1 := (formed_le hx).1
      have hne : Nat.beq pl.length 0 = false := by
        cases h : pl.length with
        | zero => omega
        | succ n => rfl
      show (Nat.beq pl.length 0, pl) = (false, pl)
      rw [hne]
    | false => rfl
end Go.Avm.Pack
namespace Go.Avm.Pack
open Go Go.Avm Go.Proofs
open Go.IntKind (i64 u64)
open Go.Avm.AV (int bool any fz fp sl ow ref fn ifc val agg tup)
open Go.Avm.AObj (cells dead)
open Go.Avm.Oc (ret)
set_option maxRecDepth 4000

theorem cnt_mono {n : Nat} {p q : Nat → Bool} (h : ∀ j, j < n → p j = true → q j = true) : cntN n p ≤ cntN n q := by
  induction n with
  | zero => exact Nat.le_refl _
  | succ n ih =>
    have := ih (fun j hj => h j (by omega))
    rw [cntN_succ, cntN_succ]
    cases hp : p n with
    | true => rw [h n (by omega) hp]; simp; exact this
    | false => cases q n <;> simp <;> omega
theorem cnt_zero {n : Nat} {p : Nat → Bool} (h : ∀ j, j < n → p j = false) : cntN n p = 0 := by
  induction n with
  | zero => rfl
  | succ n ih => rw [cntN_succ, ih (fun j hj => h j (by omega)), h n (by omega)]; rfl
theorem cnt_add {n m : Nat} {p : Nat → Bool} (h : ∀ j, m ≤ j → j < n → p j = false) (hm : m ≤ n) : cntN n p = cntN m p := by
  induction n with
  | zero => rw [show m = 0 by omega]
  | succ n ih =>
    by_cases he : m = n + 1
    · rw [he]
    · rw [cntN_succ, h n (by omega) (by omega), ih (fun j h1 h2 => h j h1 (by omega)) (by omega)]; rfl
theorem far_le {p old : Nat → Int} {m : Nat} (hm : m ≤ 8) : farN p old m ≤ m := by
  unfold farN
  rw [cnt_add (m := m) (fun j h1 h2 => by unfold fillP; rw [if_pos h1]; simp) hm]
  exact cntN_le _ _
theorem far_full {x : Ix} {pl hv : List Int} (h8 : x.l.length ≤ 8) (hpl : pl.length = x.l.length) (hhv : hv.length = x.l.length) : farN (planOf pl x.l.length) (planOf hv x.l.length) x.l.length = diffN pl hv := by
  unfold farN diffN
  rw [cnt_add (m := x.l.length) (fun j h1 h2 => by unfold fillP; rw [if_pos h1]; simp) h8, hpl, hhv, Nat.min_self]
  exact cnt_congr (fun j hj => by unfold fillP; rw [if_neg (by omega), planOf_lt hj, planOf_lt hj])
theorem far_step {pl : List Int} {old : Nat → Int} {m : Nat} {v : Int} (hm : m < pl.length) : farN (planOf pl m) old m ≤ farN (planOf (pl.set m v) (m + 1)) old (m + 1) := by
  unfold farN
  refine cnt_mono (fun j _ h => ?_)
  by_cases hj : j < m
  · have e1 : fillP (planOf pl m) old m j = pl.getD j 0 := by unfold fillP; rw [if_neg (by omega), planOf_lt hj]
    have e2 : fillP (planOf (pl.set m v) (m + 1)) old (m + 1) j = pl.getD j 0 := by unfold fillP; rw [if_neg (by omega), planOf_lt (by omega), set_getD (by omega), if_neg (by omega)]
    rw [e1] at h
    rw [e2]; exact h
  · have e1 : fillP (planOf pl m) old m j = old j := by unfold fillP; rw [if_pos (by omega)]
    rw [e1] at h
    simp at h
theorem prune {x : Ix} {gl : List Rng} {l : List Clause} {right : Bool} {hv : List Int} (h8 : x.l.length ≤ 8) (hhv : hv.length = x.l.length) : ∀ (k m : Nat), m + k = x.l.length → ∀ (pl : List Int) (s : List Int × Int), pl.length = x.l.length → s.1 ≠ [] → s.2 ≤ farN (planOf pl m) (planOf hv x.l.length) m →
    fromR x gl l right hv k s pl = s
  | 0, m, hm, pl, s, hpl, hs, hf => by
    have hm : m = x.l.length := by omega
    subst hm
    rw [far_full h8 hpl hhv] at hf
    have hne : Nat.beq s.1.length 0 = false := by
      cases h : s.1 with
      | nil => exact absurd h hs
      | cons a r => rfl
    unfold fromR
    rw [hne, decide_eq_false (by omega)]
    split
    · rfl
    · split <;> rfl
  | k + 1, m, hm, pl, s, hpl, hs, hf => by
    have em : x.l.length - (k + 1) = m := by omega
    cases hb : brkB x gl l (planOf pl x.l.length) m with
    | true => unfold fromR; rw [em, hb]; rfl
    | false =>
      rw [fromR_succ em rfl hb]
      have : ∀ j, runR x gl l right hv k m (x.l.getD m default).l.length pl s j = s := by
        intro j
        induction j with
        | zero => rfl
        | succ j ih =>
          rw [runR_succ, ih]
          unfold stepR
          split
          · exact prune h8 hhv k (m + 1) (by omega) _ s (by simpa using hpl) hs (Int.le_trans hf (by have := far_step (pl := pl) (old := planOf hv x.l.length) (m := m) (v := itemC (x.l.getD m default).l.length j) (by omega); omega))
          · rfl
      exact this _
def RelN (x : Ix) (b : NearS) (s : List Int × Int) : Prop := b.out = s.1 ∧ b.best = if s.1 = [] then (x.l.length : Int) + 1 else s.2
theorem near_walk (x : Ix) (gl : List Rng) (l : List Clause) (hx : formedB x = true) (hgl : ∀ r ∈ gl, 0 ≤ r.pack ∧ r.pack < x.l.length) (hl : ∀ c ∈ l, thereC x gl c) {hv : List Int} (hhv : hv.length = x.l.length) :
    ∀ (k m : Nat), m + k = x.l.length → ∀ (pl : List Int) (b : NearS) (s : List Int × Int), pl.length = x.l.length → RelN x b s →
      (eachR x gl l (wnN (planOf hv x.l.length)) (fdN x gl (planOf hv x.l.length)) k b (planOf pl m)).1 = true ∧
      RelN x (eachR x gl l (wnN (planOf hv x.l.length)) (fdN x gl (planOf hv x.l.length)) k b (planOf pl m)).2 (fromR x gl l true hv k s pl)
  | 0, m, hm, pl, b, s, hpl, hr => by
    have hm : m = x.l.length := by omega
    subst hm
    obtain ⟨h1, h8⟩ := formed_le hx
    have hfar := far_full h8 hpl hhv
    have hle := far_le (p := planOf pl x.l.length) (old := planOf hv x.l.length) h8
    unfold eachR fromR
    cases hb : brkB x gl l (planOf pl x.l.length) x.l.length with
    | true => exact ⟨rfl, hr⟩
    | false =>
      simp only [Bool.false_eq_true, if_false]
      have hrest : ∀ b' : NearS, b'.out = b.out → b'.best = b.best → RelN x b' s := fun b' e1 e2 => ⟨e1.trans hr.1, e2.trans hr.2⟩
      obtain ⟨r1, r2⟩ := hr
      by_cases hw : (farN (planOf pl x.l.length) (planOf hv x.l.length) x.l.length : Int) < b.best
      · have hwn : (wnN (planOf hv x.l.length) b (planOf pl x.l.length) x.l.length).1 = true := decide_eq_true hw
        rw [hwn]
        simp only [if_true]
        unfold fdN
        rw [fine_iff]
        refine ⟨by trivial, ?_⟩
        cases hf : ((faultOf x gl (planOf pl x.l.length)).1 == 0) with
        | false => exact hrest _ rfl rfl
        | true =>
          simp only [if_true, Bool.not_true, Bool.and_false, Bool.false_eq_true, if_false]
          have hacc : (Nat.beq s.1.length 0 || decide ((diffN pl hv : Int) < s.2)) = true := by
            by_cases hs : s.1 = []
            · rw [hs]; rfl
            · rw [r2, if_neg hs, hfar] at hw
              rw [decide_eq_true hw, Bool.or_true]
          rw [hacc]
          simp only [if_true]
          have hne : pl ≠ [] := fun e => by rw [e] at hpl; simp at hpl; omega
          exact ⟨planL_planOf hpl, by show (_ : Int) = if pl = [] then _ else _; rw [if_neg hne, hfar]⟩
      · have hwn : (wnN (planOf hv x.l.length) b (planOf pl x.l.length) x.l.length).1 = false := decide_eq_false hw
        rw [hwn]
        simp only [Bool.false_eq_true, if_false]
        refine ⟨by trivial, ?_⟩
        have hs : s.1 ≠ [] := fun hs => by rw [r2, if_pos hs] at hw; omega
        have hrej : (Nat.beq s.1.length 0 || decide ((diffN pl hv : Int) < s.2)) = false := by
          rw [r2, if_neg hs, hfar] at hw
          rw [decide_eq_false hw]
          cases h : s.1 with
          | nil => exact absurd h hs
          | cons a r => rfl
        rw [hrej]
        simp only [Bool.false_eq_true, if_false]
        split <;> exact hrest _ rfl rfl
  | k + 1, m, hm, pl, b, s, hpl, hr => by
    obtain ⟨h1, h8⟩ := formed_le hx
    have em : x.l.length - (k + 1) = m := by omega
    obtain ⟨N, hN⟩ : ∃ N, (x.l.getD m default).l.length = N := ⟨_, rfl⟩
    cases hb : brkB x gl l (planOf pl m) m with
    | true =>
      have hb2 := hb
      rw [brk_plan hx hgl hl (show m ≤ x.l.length by omega)] at hb2
      unfold eachR fromR
      rw [em, hb, hb2]
      exact ⟨rfl, hr⟩
    | false =>
      have hb2 := hb
      rw [brk_plan hx hgl hl (show m ≤ x.l.length by omega)] at hb2
      by_cases hw : (farN (planOf pl m) (planOf hv x.l.length) m : Int) < b.best
      · have hwn : (wnN (planOf hv x.l.length) b (planOf pl m) m).1 = true := decide_eq_true hw
        rw [fromR_succ em hN hb2]
        obtain ⟨S, hS⟩ : ∃ S, runR x gl l true hv k m N pl s = S := ⟨_, rfl⟩
        rw [hS]
        obtain ⟨f, hf⟩ : ∃ f : NearS → Int → Bool × NearS, f = fun b v => eachR x gl l (wnN (planOf hv x.l.length)) (fdN x gl (planOf hv x.l.length)) k b (updP (planOf pl m) m v) := ⟨_, rfl⟩
        obtain ⟨b1, hb1⟩ : ∃ b1, (wnN (planOf hv x.l.length) b (planOf pl m) m).2 = b1 := ⟨_, rfl⟩
        have e1 : eachR x gl l (wnN (planOf hv x.l.length)) (fdN x gl (planOf hv x.l.length)) (k + 1) b (planOf pl m) = goN f (itemC N) (N + 1) b1 := by
          unfold eachR
          rw [em, hb, hwn, hN, hf, hb1]
          rfl
        rw [e1]
        have hg : ∀ s : List Int × Int, grdB hv s = true := fun s => by
          unfold grdB
          cases h : hv with
          | nil => rw [h] at hhv; simp at hhv; omega
          | cons a r => rw [show Nat.beq (a :: r).length 0 = false from rfl]; simp
        have main : ∀ j, RelN x (bK f (itemC N) b1 j) (S j) ∧ ∀ i, i < j → cK f (itemC N) b1 i = true := by
          intro j
          induction j with
          | zero => exact ⟨by rw [← hS, ← hb1]; exact hr, fun i hi => absurd hi (by omega)⟩
          | succ j ih =>
            have hst : f (bK f (itemC N) b1 j) (itemC N j) = eachR x gl l (wnN (planOf hv x.l.length)) (fdN x gl (planOf hv x.l.length)) k (bK f (itemC N) b1 j) (planOf (pl.set m (itemC N j)) (m + 1)) := by
              rw [← planOf_set (by omega)]
              conv => lhs; rw [hf]
              rw [hf]
            have h2 := near_walk x gl l hx hgl hl hhv k (m + 1) (by omega) (pl.set m (itemC N j)) (bK f (itemC N) b1 j) (S j) (by simpa using hpl) ih.1
            rw [← hst] at h2
            refine ⟨?_, fun i hi => ?_⟩
            · have : S (j + 1) = fromR x gl l true hv k (S j) (pl.set m (itemC N j)) := by
                rw [← hS, runR_succ, hS]
                unfold stepR
                rw [hg]; rfl
              rw [this]
              exact h2.2
            · rcases Nat.lt_or_ge i j with h | h
              · exact ih.2 i h
              · have : i = j := by omega
                subst this
                exact h2.1
        obtain ⟨m1, m2⟩ := main (N + 1)
        rw [goN_all m2]
        exact ⟨rfl, m1⟩
      · have hwn : (wnN (planOf hv x.l.length) b (planOf pl m) m).1 = false := decide_eq_false hw
        have hle := far_le (p := planOf pl m) (old := planOf hv x.l.length) (m := m) (by omega)
        obtain ⟨r1, r2⟩ := hr
        have hs : s.1 ≠ [] := fun hs => by rw [r2, if_pos hs] at hw; omega
        rw [prune h8 hhv (k + 1) m hm pl s hpl hs (by rw [r2, if_neg hs] at hw; omega)]
        unfold eachR
        rw [em, hb, hwn]
        exact ⟨rfl, r1, r2⟩
theorem near_eq {x : Ix} {gl : List Rng} (hck : checkB x gl = true) {hv : List Int} (hpl : plannedB x hv = true) : nearR x gl hv = rnearR x gl hv := by
  obtain ⟨hx, hg4, _⟩ := check_parts hck
  have hhv := (plannedB_iff.1 hpl).1
  have h := (near_walk x gl (clausesOf x gl) hx (check_goals hck) (fun c hc => there_all hc) hhv x.l.length 0 (by omega) (planL (fun _ => -1) x.l.length) ⟨[], [], (x.l.length : Int) + 1⟩ ([], 0) (planL_none x) ⟨rfl, rfl⟩).2
  rw [planOf_zero] at h
  have h1 : (nearP x gl (planOf hv x.l.length)).out = (searchR x gl (clausesOf x gl) true hv).1 := h.1
  have h2 : (nearP x gl (planOf hv x.l.length)).best = if (searchR x gl (clausesOf x gl) true hv).1 = [] then (x.l.length : Int) + 1 else (searchR x gl (clausesOf x gl) true hv).2 := h.2
  unfold nearR rnearR
  rw [hck, hpl, h1, h2]
  simp only [if_true]
  split
  · rfl
  · rename_i hne
    rw [if_neg (fun e => hne (by rw [e]; rfl))]
end Go.Avm.Pack
namespace Go.Avm.Pack
open Go Go.Avm Go.Proofs
open Go.IntKind (i64 u64)
open Go.Avm.AV (int bool any fz fp sl ow ref fn ifc val agg tup)
open Go.Avm.AObj (cells dead)
open Go.Avm.Oc (ret)
set_option maxRecDepth 4000
theorem c_span (R : Res) (a b c : Int) (hp : List AObj) (g : R.σ) : Does Try.prog R 42 [.int .i64 a, .int .i64 b, .int .i64 c] hp g (.ret (encRng ⟨a, b, c⟩)) hp g := by
  refine does_any' (fun R g => ?_) (by exact ⟨trivial, ⟨trivial, ⟨trivial, trivial⟩⟩⟩) R hp g
  refine spec_of_wp (nt := 11) (rs := [.cell 6 72]) (k0 := 0) (by kernel_rfl) (by kernel_rfl) (by kernel_rfl) rfl ?_
  refine vcQ [] (lkL [(0, [0, 1, 2, 6]), (1, [6])]) (lkL [(1, [(4, ROrc.val (Orc.obj (nth [int i64 a, int i64 b, int i64 c])))])]) (fun (Q : AEx → St R.σ → Prop) => 3 ≤ 3 ∧ (∀ (c_1 : Nat), c_1 < 3 → nth [int i64 a, int i64 b, int i64 c] c_1 = over (nth [int i64 0, int i64 0, int i64 0]) 0 3 (List.brecOn (motive := fun (x : List AV) => Nat → AV) [int i64 a, int i64 b, int i64 c] nth._f) c_1) ∧ Q AEx.ret (St.mk [(6, ref 0 0)] [cells false 3 (nth [int i64 a, int i64 b, int i64 c])] g)) (fun _ => by kernel_rfl) ⟨(by omega), ⟨(fun c hc => match c, hc with | 0, _ => (by kernel_rfl) | 1, _ => (by kernel_rfl) | 2, _ => (by kernel_rfl) ), ?_⟩⟩
  refine (retQ_le (retQ_drop (agg 3 (nth [int i64 a, int i64 b, int i64 c])) ([0 + (TyI.mk ((fun (x : TypeInfo) => x.desc) Try.prog.types[71]) Try.prog.types[72].size Try.prog.types[72].bytes (cellA (ofVal (Value.agg #[Value.int i64 0, Value.int i64 0, Value.int i64 0]))) (isAggD ((fun (x : TypeInfo) => x.desc) Try.prog.types[71])) (flatTy Try.prog 72)).size ≤ 3]) (by kernel_rfl) (by exact ⟨(by decide), trivial⟩) ⟨⟨⟨trivial, trivial⟩, trivial⟩, trivial⟩ rfl) (Le.of_eq (by kernel_rfl)))
theorem c_goals (R : Res) (l : KL Rng) (hp : List AObj) (g : R.σ) : Does Try.prog R 41 [encR l] hp g (.ret (encR l)) hp g := by
  refine does_any' (fun R g => ?_) (by exact ⟨trivial, trivial⟩) R hp g
  refine spec_of_wp (nt := 4) (rs := [.tmp 2]) (k0 := 0) (by kernel_rfl) (by kernel_rfl) (by kernel_rfl) rfl ?_
  refine vcQ [] (lkL [(0, [0]), (1, [2])]) (fun _ => []) (fun (Q : AEx → St R.σ → Prop) => Q AEx.ret (St.mk [(2, encR l)] [] g)) (fun _ => by kernel_rfl) (?_)
  refine (retQ_le (retQ_same' _ _ rfl trivial rfl rfl rfl) (Le.of_eq (by kernel_rfl)))
theorem c_mkrel (R : Res) (l : KL Rng) (hp : List AObj) (g : R.σ) : Does Try.prog R 68 [encR l] hp g (.ret (encRel ⟨l, ⟨[], .nil⟩⟩)) hp g := by
  refine does_any' (fun R g => ?_) (by exact ⟨trivial, trivial⟩) R hp g
  refine spec_of_wp (nt := 5) (rs := [.cell 2 68]) (k0 := 0) (by kernel_rfl) (by kernel_rfl) (by kernel_rfl) rfl ?_
  refine vcQ [] (lkL [(0, [0, 2]), (1, [2])]) (lkL [(1, [(2, ROrc.val (Orc.obj (nth [encR l, fz Fz.nil 0 0 fun (x x_1 : Nat) => any])))])]) (fun (Q : AEx → St R.σ → Prop) => 2 ≤ 2 ∧ (∀ (c : Nat), c < 2 → nth [encR l, fz Fz.nil 0 0 fun (x x_1 : Nat) => any] c = over (nth [fz Fz.nil 0 0 fun (x x_1 : Nat) => any, fz Fz.nil 0 0 fun (x x_1 : Nat) => any]) 0 2 (List.brecOn (motive := fun (x : List AV) => Nat → AV) [encR l, fz Fz.nil 0 0 fun (x x_1 : Nat) => any] nth._f) c) ∧ Q AEx.ret (St.mk [(2, ref 0 0)] [cells false 2 (nth [encR l, fz Fz.nil 0 0 fun (x x_1 : Nat) => any])] g)) (fun _ => by kernel_rfl) ⟨(by omega), ⟨(fun c hc => match c, hc with | 0, _ => (by kernel_rfl) | 1, _ => (by kernel_rfl) ), ?_⟩⟩
  refine (retQ_le (retQ_drop (agg 2 (nth [fz l.2 3 (List.length l.l) fun (i : Nat) => rngC (List.getD l.l i default), fz Fz.nil 0 0 fun (x x_1 : Nat) => any])) ([0 + (TyI.mk ((fun (x : TypeInfo) => x.desc) Try.prog.types[67]) Try.prog.types[68].size Try.prog.types[68].bytes (cellA (ofVal (Value.agg #[Value.slice none 0 0, Value.slice none 0 0]))) (isAggD ((fun (x : TypeInfo) => x.desc) Try.prog.types[67])) (flatTy Try.prog 68)).size ≤ 2]) (by kernel_rfl) (by exact ⟨(by decide), trivial⟩) ⟨⟨trivial, trivial⟩, trivial⟩ rfl) (Le.agg (fun j hj => match j, hj with | 0, _ => (Le.of_eq (by kernel_rfl)) | 1, _ => Le.nil )))
theorem c_mkbar (R : Res) (l : KL Rng) (hp : List AObj) (g : R.σ) : Does Try.prog R 69 [encR l] hp g (.ret (encRel ⟨⟨[], .nil⟩, l⟩)) hp g := by
  refine does_any' (fun R g => ?_) (by exact ⟨trivial, trivial⟩) R hp g
  refine spec_of_wp (nt := 5) (rs := [.cell 2 68]) (k0 := 0) (by kernel_rfl) (by kernel_rfl) (by kernel_rfl) rfl ?_
  refine vcQ [] (lkL [(0, [0, 2]), (1, [2])]) (lkL [(1, [(2, ROrc.val (Orc.obj (nth [fz Fz.nil 0 0 fun (x x_1 : Nat) => any, encR l])))])]) (fun (Q : AEx → St R.σ → Prop) => 2 ≤ 2 ∧ (∀ (c : Nat), c < 2 → nth [fz Fz.nil 0 0 fun (x x_1 : Nat) => any, encR l] c = over (nth [fz Fz.nil 0 0 fun (x x_1 : Nat) => any, fz Fz.nil 0 0 fun (x x_1 : Nat) => any]) 0 2 (List.brecOn (motive := fun (x : List AV) => Nat → AV) [fz Fz.nil 0 0 fun (x x_1 : Nat) => any, encR l] nth._f) c) ∧ Q AEx.ret (St.mk [(2, ref 0 0)] [cells false 2 (nth [fz Fz.nil 0 0 fun (x x_1 : Nat) => any, encR l])] g)) (fun _ => by kernel_rfl) ⟨(by omega), ⟨(fun c hc => match c, hc with | 0, _ => (by kernel_rfl) | 1, _ => (by kernel_rfl) ), ?_⟩⟩
  refine (retQ_le (retQ_drop (agg 2 (nth [fz Fz.nil 0 0 fun (x x_1 : Nat) => any, fz l.2 3 (List.length l.l) fun (i : Nat) => rngC (List.getD l.l i default)])) ([0 + (TyI.mk ((fun (x : TypeInfo) => x.desc) Try.prog.types[67]) Try.prog.types[68].size Try.prog.types[68].bytes (cellA (ofVal (Value.agg #[Value.slice none 0 0, Value.slice none 0 0]))) (isAggD ((fun (x : TypeInfo) => x.desc) Try.prog.types[67])) (flatTy Try.prog 68)).size ≤ 2]) (by kernel_rfl) (by exact ⟨(by decide), trivial⟩) ⟨⟨trivial, trivial⟩, trivial⟩ rfl) (Le.agg (fun j hj => match j, hj with | 0, _ => Le.nil | 1, _ => (Le.of_eq (by kernel_rfl)) )))
def aN : KL Rng := ⟨[], .nil⟩
def a1 : KL Rng := ⟨[⟨1, 0, 1⟩], .exa⟩
def a2 : KL Rng := ⟨[⟨1, 2, 2⟩, ⟨2, 0, 1⟩], .exa⟩
def a3 : KL Rng := ⟨[⟨2, 0, 0⟩], .exa⟩
def a4 : KL Rng := ⟨[⟨2, 1, 1⟩], .exa⟩
def a5 : KL Rng := ⟨[⟨0, 2, 2⟩], .exa⟩
def aP0 : KL Rel := ⟨[⟨aN, aN⟩, ⟨a1, aN⟩, ⟨a2, aN⟩], .exa⟩
def aP1 : KL Rel := ⟨[⟨aN, aN⟩, ⟨a3, aN⟩, ⟨a4, aN⟩], .exa⟩
def aP2 : KL Rel := ⟨[⟨aN, aN⟩, ⟨aN, a5⟩], .exa⟩
def aIx : Ix := ⟨[aP0, aP1, aP2], .exa⟩
theorem c_A (R : Res) (hp : List AObj) (g : R.σ) : Does Try.prog R 40 [] hp g (.ret (encIx aIx)) hp g := by
  refine does_any' (fun R g => ?_) (by exact trivial) R hp g
  obtain ⟨v1, e1⟩ : ∃ v, v = a1 := ⟨_, rfl⟩
  obtain ⟨v2, e2⟩ : ∃ v, v = a2 := ⟨_, rfl⟩
  obtain ⟨v3, e3⟩ : ∃ v, v = a3 := ⟨_, rfl⟩
  obtain ⟨v4, e4⟩ : ∃ v, v = a4 := ⟨_, rfl⟩
  obtain ⟨v5, e5⟩ : ∃ v, v = a5 := ⟨_, rfl⟩
  obtain ⟨w0, f0⟩ : ∃ v, v = aP0 := ⟨_, rfl⟩
  obtain ⟨w1, f1⟩ : ∃ v, v = aP1 := ⟨_, rfl⟩
  obtain ⟨w2, f2⟩ : ∃ v, v = aP2 := ⟨_, rfl⟩
  obtain ⟨z, hz⟩ : ∃ v, v = aIx := ⟨_, rfl⟩
  rw [← hz]
  refine spec_of_wp (nt := 25) (rs := [.cell 0 24]) (k0 := 0) (by kernel_rfl) (by kernel_rfl) (by kernel_rfl) rfl ?_
  refine vcQ [] (lkL [(0, [0]), (1, [0])]) (lkL [(1, [(0, ROrc.pcall (encRel (Rel.mk (KL.mk [] Fz.nil) (KL.mk [] Fz.nil)))), (1, ROrc.pcall (encRng (Rng.mk 1 0 1))), (2, ROrc.kop (encR v1)), (3, ROrc.pcall (encRel (Rel.mk v1 (KL.mk [] Fz.nil)))), (4, ROrc.pcall (encRng (Rng.mk 1 2 2))), (5, ROrc.pcall (encRng (Rng.mk 2 0 1))), (6, ROrc.kop (encR v2)), (7, ROrc.pcall (encRel (Rel.mk v2 (KL.mk [] Fz.nil)))), (8, ROrc.kop (encRels w0)), (9, ROrc.pcall (encRel (Rel.mk (KL.mk [] Fz.nil) (KL.mk [] Fz.nil)))), (10, ROrc.pcall (encRng (Rng.mk 2 0 0))), (11, ROrc.kop (encR v3)), (12, ROrc.pcall (encRel (Rel.mk v3 (KL.mk [] Fz.nil)))), (13, ROrc.pcall (encRng (Rng.mk 2 1 1))), (14, ROrc.kop (encR v4)), (15, ROrc.pcall (encRel (Rel.mk v4 (KL.mk [] Fz.nil)))), (16, ROrc.kop (encRels w1)), (17, ROrc.pcall (encRel (Rel.mk (KL.mk [] Fz.nil) (KL.mk [] Fz.nil)))), (18, ROrc.pcall (encRng (Rng.mk 0 2 2))), (19, ROrc.kop (encR v5)), (20, ROrc.pcall (encRel (Rel.mk (KL.mk [] Fz.nil) v5))), (21, ROrc.kop (encRels w2)), (22, ROrc.kop (encPacks z)), (24, ROrc.val (Orc.obj (nth [encPacks z])))])]) (fun (Q : AEx → St R.σ → Prop) => (∀ (hp : List AObj) (g : R.σ), true = true ∧ Does Try.prog R 68 [fz Fz.nil 0 0 fun (x x_1 : Nat) => any] hp g (ret (agg 2 (nth [fz Fz.nil 3 0 fun (i : Nat) => rngC (List.getD (KL.mk [] Fz.nil).l i default), fz Fz.nil 3 0 fun (i : Nat) => rngC (List.getD (KL.mk [] Fz.nil).l i default)]))) hp g) ∧ (∀ (hp : List AObj) (g : R.σ), true = true ∧ Does Try.prog R 42 [int i64 1, int i64 0, int i64 1] hp g (ret (agg 3 (nth [int i64 1, int i64 0, int i64 1]))) hp g) ∧ OpOk Try.prog R (Oper.mk (some 3) (Op.buildSlice 25 1 #[(0, Operand.tmp 2)]) 25 "law.go:22" #[Edge.mk 1 Ground.data] none) (evO [Row.mk (some 2) none (agg 3 (nth [int i64 1, int i64 0, int i64 1])) false (some []) [], Row.mk (some 1) none (agg 2 (nth [fz Fz.nil 3 0 fun (i : Nat) => rngC (List.getD [] i default), fz Fz.nil 3 0 fun (i : Nat) => rngC (List.getD [] i default)])) false (some []) []] [(0, ref 0 0)] []) [cells false 1 (nth [fz Fz.nil 0 0 fun (x x_1 : Nat) => any])] g (encR v1) [cells false 1 (nth [fz Fz.nil 0 0 fun (x x_1 : Nat) => any])] g ∧ (∀ (hp : List AObj) (g : R.σ), true = true ∧ Does Try.prog R 68 [encR v1] hp g (ret (agg 2 (nth [encR v1, fz Fz.nil 3 0 fun (i : Nat) => rngC (List.getD (KL.mk [] Fz.nil).l i default)]))) hp g) ∧ (∀ (hp : List AObj) (g : R.σ), true = true ∧ Does Try.prog R 42 [int i64 1, int i64 2, int i64 2] hp g (ret (agg 3 (nth [int i64 1, int i64 2, int i64 2]))) hp g) ∧ (∀ (hp : List AObj) (g : R.σ), true = true ∧ Does Try.prog R 42 [int i64 2, int i64 0, int i64 1] hp g (ret (agg 3 (nth [int i64 2, int i64 0, int i64 1]))) hp g) ∧ OpOk Try.prog R (Oper.mk (some 7) (Op.buildSlice 25 2 #[(0, Operand.tmp 5), (1, Operand.tmp 6)]) 25 "law.go:22" #[Edge.mk 4 Ground.data, Edge.mk 5 Ground.data] none) (evO [Row.mk (some 6) none (agg 3 (nth [int i64 2, int i64 0, int i64 1])) false (some []) [], Row.mk (some 5) none (agg 3 (nth [int i64 1, int i64 2, int i64 2])) false (some []) [], Row.mk (some 4) none (agg 2 (nth [encR v1, fz Fz.nil 3 0 fun (i : Nat) => rngC (List.getD [] i default)])) false (some []) [], Row.mk (some 3) none (encR v1) true (some []) [], Row.mk (some 2) none (agg 3 (nth [int i64 1, int i64 0, int i64 1])) false (some []) [], Row.mk (some 1) none (agg 2 (nth [fz Fz.nil 3 0 fun (i : Nat) => rngC (List.getD [] i default), fz Fz.nil 3 0 fun (i : Nat) => rngC (List.getD [] i default)])) false (some []) []] [(0, ref 0 0)] []) [cells false 1 (nth [fz Fz.nil 0 0 fun (x x_1 : Nat) => any])] g (encR v2) [cells false 1 (nth [fz Fz.nil 0 0 fun (x x_1 : Nat) => any])] g ∧ (∀ (hp : List AObj) (g : R.σ), true = true ∧ Does Try.prog R 68 [encR v2] hp g (ret (agg 2 (nth [encR v2, fz Fz.nil 3 0 fun (i : Nat) => rngC (List.getD (KL.mk [] Fz.nil).l i default)]))) hp g) ∧ OpOk Try.prog R (Oper.mk (some 9) (Op.buildSlice 66 3 #[(0, Operand.tmp 1), (1, Operand.tmp 4), (2, Operand.tmp 8)]) 66 "law.go:22" #[Edge.mk 0 Ground.data, Edge.mk 3 Ground.data, Edge.mk 7 Ground.data] none) (evO [Row.mk (some 8) none (agg 2 (nth [encR v2, fz Fz.nil 3 0 fun (i : Nat) => rngC (List.getD [] i default)])) false (some []) [], Row.mk (some 7) none (encR v2) true (some []) [], Row.mk (some 6) none (agg 3 (nth [int i64 2, int i64 0, int i64 1])) false (some []) [], Row.mk (some 5) none (agg 3 (nth [int i64 1, int i64 2, int i64 2])) false (some []) [], Row.mk (some 4) none (agg 2 (nth [encR v1, fz Fz.nil 3 0 fun (i : Nat) => rngC (List.getD [] i default)])) false (some []) [], Row.mk (some 3) none (encR v1) true (some []) [], Row.mk (some 2) none (agg 3 (nth [int i64 1, int i64 0, int i64 1])) false (some []) [], Row.mk (some 1) none (agg 2 (nth [fz Fz.nil 3 0 fun (i : Nat) => rngC (List.getD [] i default), fz Fz.nil 3 0 fun (i : Nat) => rngC (List.getD [] i default)])) false (some []) []] [(0, ref 0 0)] []) [cells false 1 (nth [fz Fz.nil 0 0 fun (x x_1 : Nat) => any])] g (encRels w0) [cells false 1 (nth [fz Fz.nil 0 0 fun (x x_1 : Nat) => any])] g ∧ (∀ (hp : List AObj) (g : R.σ), true = true ∧ Does Try.prog R 68 [fz Fz.nil 0 0 fun (x x_1 : Nat) => any] hp g (ret (agg 2 (nth [fz Fz.nil 3 0 fun (i : Nat) => rngC (List.getD (KL.mk [] Fz.nil).l i default), fz Fz.nil 3 0 fun (i : Nat) => rngC (List.getD (KL.mk [] Fz.nil).l i default)]))) hp g) ∧ (∀ (hp : List AObj) (g : R.σ), true = true ∧ Does Try.prog R 42 [int i64 2, int i64 0, int i64 0] hp g (ret (agg 3 (nth [int i64 2, int i64 0, int i64 0]))) hp g) ∧ OpOk Try.prog R (Oper.mk (some 12) (Op.buildSlice 25 1 #[(0, Operand.tmp 11)]) 25 "law.go:22" #[Edge.mk 10 Ground.data] none) (evO [Row.mk (some 11) none (agg 3 (nth [int i64 2, int i64 0, int i64 0])) false (some []) [], Row.mk (some 10) none (agg 2 (nth [fz Fz.nil 3 0 fun (i : Nat) => rngC (List.getD [] i default), fz Fz.nil 3 0 fun (i : Nat) => rngC (List.getD [] i default)])) false (some []) [], Row.mk (some 9) none (encRels w0) true (some []) [], Row.mk (some 8) none (agg 2 (nth [encR v2, fz Fz.nil 3 0 fun (i : Nat) => rngC (List.getD [] i default)])) false (some []) [], Row.mk (some 7) none (encR v2) true (some []) [], Row.mk (some 6) none (agg 3 (nth [int i64 2, int i64 0, int i64 1])) false (some []) [], Row.mk (some 5) none (agg 3 (nth [int i64 1, int i64 2, int i64 2])) false (some []) [], Row.mk (some 4) none (agg 2 (nth [encR v1, fz Fz.nil 3 0 fun (i : Nat) => rngC (List.getD [] i default)])) false (some []) [], Row.mk (some 3) none (encR v1) true (some []) [], Row.mk (some 2) none (agg 3 (nth [int i64 1, int i64 0, int i64 1])) false (some []) [], Row.mk (some 1) none (agg 2 (nth [fz Fz.nil 3 0 fun (i : Nat) => rngC (List.getD [] i default), fz Fz.nil 3 0 fun (i : Nat) => rngC (List.getD [] i default)])) false (some []) []] [(0, ref 0 0)] []) [cells false 1 (nth [fz Fz.nil 0 0 fun (x x_1 : Nat) => any])] g (encR v3) [cells false 1 (nth [fz Fz.nil 0 0 fun (x x_1 : Nat) => any])] g ∧ (∀ (hp : List AObj) (g : R.σ), true = true ∧ Does Try.prog R 68 [encR v3] hp g (ret (agg 2 (nth [encR v3, fz Fz.nil 3 0 fun (i : Nat) => rngC (List.getD (KL.mk [] Fz.nil).l i default)]))) hp g) ∧ (∀ (hp : List AObj) (g : R.σ), true = true ∧ Does Try.prog R 42 [int i64 2, int i64 1, int i64 1] hp g (ret (agg 3 (nth [int i64 2, int i64 1, int i64 1]))) hp g) ∧ OpOk Try.prog R (Oper.mk (some 15) (Op.buildSlice 25 1 #[(0, Operand.tmp 14)]) 25 "law.go:22" #[Edge.mk 13 Ground.data] none) (evO [Row.mk (some 14) none (agg 3 (nth [int i64 2, int i64 1, int i64 1])) false (some []) [], Row.mk (some 13) none (agg 2 (nth [encR v3, fz Fz.nil 3 0 fun (i : Nat) => rngC (List.getD [] i default)])) false (some []) [], Row.mk (some 12) none (encR v3) true (some []) [], Row.mk (some 11) none (agg 3 (nth [int i64 2, int i64 0, int i64 0])) false (some []) [], Row.mk (some 10) none (agg 2 (nth [fz Fz.nil 3 0 fun (i : Nat) => rngC (List.getD [] i default), fz Fz.nil 3 0 fun (i : Nat) => rngC (List.getD [] i default)])) false (some []) [], Row.mk (some 9) none (encRels w0) true (some []) [], Row.mk (some 8) none (agg 2 (nth [encR v2, fz Fz.nil 3 0 fun (i : Nat) => rngC (List.getD [] i default)])) false (some []) [], Row.mk (some 7) none (encR v2) true (some []) [], Row.mk (some 6) none (agg 3 (nth [int i64 2, int i64 0, int i64 1])) false (some []) [], Row.mk (some 5) none (agg 3 (nth [int i64 1, int i64 2, int i64 2])) false (some []) [], Row.mk (some 4) none (agg 2 (nth [encR v1, fz Fz.nil 3 0 fun (i : Nat) => rngC (List.getD [] i default)])) false (some []) [], Row.mk (some 3) none (encR v1) true (some []) [], Row.mk (some 2) none (agg 3 (nth [int i64 1, int i64 0, int i64 1])) false (some []) [], Row.mk (some 1) none (agg 2 (nth [fz Fz.nil 3 0 fun (i : Nat) => rngC (List.getD [] i default), fz Fz.nil 3 0 fun (i : Nat) => rngC (List.getD [] i default)])) false (some []) []] [(0, ref 0 0)] []) [cells false 1 (nth [fz Fz.nil 0 0 fun (x x_1 : Nat) => any])] g (encR v4) [cells false 1 (nth [fz Fz.nil 0 0 fun (x x_1 : Nat) => any])] g ∧ (∀ (hp : List AObj) (g : R.σ), true = true ∧ Does Try.prog R 68 [encR v4] hp g (ret (agg 2 (nth [encR v4, fz Fz.nil 3 0 fun (i : Nat) => rngC (List.getD (KL.mk [] Fz.nil).l i default)]))) hp g) ∧ OpOk Try.prog R (Oper.mk (some 17) (Op.buildSlice 66 3 #[(0, Operand.tmp 10), (1, Operand.tmp 13), (2, Operand.tmp 16)]) 66 "law.go:22" #[Edge.mk 9 Ground.data, Edge.mk 12 Ground.data, Edge.mk 15 Ground.data] none) (evO [Row.mk (some 16) none (agg 2 (nth [encR v4, fz Fz.nil 3 0 fun (i : Nat) => rngC (List.getD [] i default)])) false (some []) [], Row.mk (some 15) none (encR v4) true (some []) [], Row.mk (some 14) none (agg 3 (nth [int i64 2, int i64 1, int i64 1])) false (some []) [], Row.mk (some 13) none (agg 2 (nth [encR v3, fz Fz.nil 3 0 fun (i : Nat) => rngC (List.getD [] i default)])) false (some []) [], Row.mk (some 12) none (encR v3) true (some []) [], Row.mk (some 11) none (agg 3 (nth [int i64 2, int i64 0, int i64 0])) false (some []) [], Row.mk (some 10) none (agg 2 (nth [fz Fz.nil 3 0 fun (i : Nat) => rngC (List.getD [] i default), fz Fz.nil 3 0 fun (i : Nat) => rngC (List.getD [] i default)])) false (some []) [], Row.mk (some 9) none (encRels w0) true (some []) [], Row.mk (some 8) none (agg 2 (nth [encR v2, fz Fz.nil 3 0 fun (i : Nat) => rngC (List.getD [] i default)])) false (some []) [], Row.mk (some 7) none (encR v2) true (some []) [], Row.mk (some 6) none (agg 3 (nth [int i64 2, int i64 0, int i64 1])) false (some []) [], Row.mk (some 5) none (agg 3 (nth [int i64 1, int i64 2, int i64 2])) false (some []) [], Row.mk (some 4) none (agg 2 (nth [encR v1, fz Fz.nil 3 0 fun (i : Nat) => rngC (List.getD [] i default)])) false (some []) [], Row.mk (some 3) none (encR v1) true (some []) [], Row.mk (some 2) none (agg 3 (nth [int i64 1, int i64 0, int i64 1])) false (some []) [], Row.mk (some 1) none (agg 2 (nth [fz Fz.nil 3 0 fun (i : Nat) => rngC (List.getD [] i default), fz Fz.nil 3 0 fun (i : Nat) => rngC (List.getD [] i default)])) false (some []) []] [(0, ref 0 0)] []) [cells false 1 (nth [fz Fz.nil 0 0 fun (x x_1 : Nat) => any])] g (encRels w1) [cells false 1 (nth [fz Fz.nil 0 0 fun (x x_1 : Nat) => any])] g ∧ (∀ (hp : List AObj) (g : R.σ), true = true ∧ Does Try.prog R 68 [fz Fz.nil 0 0 fun (x x_1 : Nat) => any] hp g (ret (agg 2 (nth [fz Fz.nil 3 0 fun (i : Nat) => rngC (List.getD (KL.mk [] Fz.nil).l i default), fz Fz.nil 3 0 fun (i : Nat) => rngC (List.getD (KL.mk [] Fz.nil).l i default)]))) hp g) ∧ (∀ (hp : List AObj) (g : R.σ), true = true ∧ Does Try.prog R 42 [int i64 0, int i64 2, int i64 2] hp g (ret (agg 3 (nth [int i64 0, int i64 2, int i64 2]))) hp g) ∧ OpOk Try.prog R (Oper.mk (some 20) (Op.buildSlice 25 1 #[(0, Operand.tmp 19)]) 25 "law.go:22" #[Edge.mk 18 Ground.data] none) (evO [Row.mk (some 19) none (agg 3 (nth [int i64 0, int i64 2, int i64 2])) false (some []) [], Row.mk (some 18) none (agg 2 (nth [fz Fz.nil 3 0 fun (i : Nat) => rngC (List.getD [] i default), fz Fz.nil 3 0 fun (i : Nat) => rngC (List.getD [] i default)])) false (some []) [], Row.mk (some 17) none (encRels w1) true (some []) [], Row.mk (some 16) none (agg 2 (nth [encR v4, fz Fz.nil 3 0 fun (i : Nat) => rngC (List.getD [] i default)])) false (some []) [], Row.mk (some 15) none (encR v4) true (some []) [], Row.mk (some 14) none (agg 3 (nth [int i64 2, int i64 1, int i64 1])) false (some []) [], Row.mk (some 13) none (agg 2 (nth [encR v3, fz Fz.nil 3 0 fun (i : Nat) => rngC (List.getD [] i default)])) false (some []) [], Row.mk (some 12) none (encR v3) true (some []) [], Row.mk (some 11) none (agg 3 (nth [int i64 2, int i64 0, int i64 0])) false (some []) [], Row.mk (some 10) none (agg 2 (nth [fz Fz.nil 3 0 fun (i : Nat) => rngC (List.getD [] i default), fz Fz.nil 3 0 fun (i : Nat) => rngC (List.getD [] i default)])) false (some []) [], Row.mk (some 9) none (encRels w0) true (some []) [], Row.mk (some 8) none (agg 2 (nth [encR v2, fz Fz.nil 3 0 fun (i : Nat) => rngC (List.getD [] i default)])) false (some []) [], Row.mk (some 7) none (encR v2) true (some []) [], Row.mk (some 6) none (agg 3 (nth [int i64 2, int i64 0, int i64 1])) false (some []) [], Row.mk (some 5) none (agg 3 (nth [int i64 1, int i64 2, int i64 2])) false (some []) [], Row.mk (some 4) none (agg 2 (nth [encR v1, fz Fz.nil 3 0 fun (i : Nat) => rngC (List.getD [] i default)])) false (some []) [], Row.mk (some 3) none (encR v1) true (some []) [], Row.mk (some 2) none (agg 3 (nth [int i64 1, int i64 0, int i64 1])) false (some []) [], Row.mk (some 1) none (agg 2 (nth [fz Fz.nil 3 0 fun (i : Nat) => rngC (List.getD [] i default), fz Fz.nil 3 0 fun (i : Nat) => rngC (List.getD [] i default)])) false (some []) []] [(0, ref 0 0)] []) [cells false 1 (nth [fz Fz.nil 0 0 fun (x x_1 : Nat) => any])] g (encR v5) [cells false 1 (nth [fz Fz.nil 0 0 fun (x x_1 : Nat) => any])] g ∧ (∀ (hp : List AObj) (g : R.σ), true = true ∧ Does Try.prog R 69 [encR v5] hp g (ret (agg 2 (nth [fz Fz.nil 3 0 fun (i : Nat) => rngC (List.getD (KL.mk [] Fz.nil).l i default), encR v5]))) hp g) ∧ OpOk Try.prog R (Oper.mk (some 22) (Op.buildSlice 66 2 #[(0, Operand.tmp 18), (1, Operand.tmp 21)]) 66 "law.go:22" #[Edge.mk 17 Ground.data, Edge.mk 20 Ground.data] none) (evO [Row.mk (some 21) none (agg 2 (nth [fz Fz.nil 3 0 fun (i : Nat) => rngC (List.getD [] i default), encR v5])) false (some []) [], Row.mk (some 20) none (encR v5) true (some []) [], Row.mk (some 19) none (agg 3 (nth [int i64 0, int i64 2, int i64 2])) false (some []) [], Row.mk (some 18) none (agg 2 (nth [fz Fz.nil 3 0 fun (i : Nat) => rngC (List.getD [] i default), fz Fz.nil 3 0 fun (i : Nat) => rngC (List.getD [] i default)])) false (some []) [], Row.mk (some 17) none (encRels w1) true (some []) [], Row.mk (some 16) none (agg 2 (nth [encR v4, fz Fz.nil 3 0 fun (i : Nat) => rngC (List.getD [] i default)])) false (some []) [], Row.mk (some 15) none (encR v4) true (some []) [], Row.mk (some 14) none (agg 3 (nth [int i64 2, int i64 1, int i64 1])) false (some []) [], Row.mk (some 13) none (agg 2 (nth [encR v3, fz Fz.nil 3 0 fun (i : Nat) => rngC (List.getD [] i default)])) false (some []) [], Row.mk (some 12) none (encR v3) true (some []) [], Row.mk (some 11) none (agg 3 (nth [int i64 2, int i64 0, int i64 0])) false (some []) [], Row.mk (some 10) none (agg 2 (nth [fz Fz.nil 3 0 fun (i : Nat) => rngC (List.getD [] i default), fz Fz.nil 3 0 fun (i : Nat) => rngC (List.getD [] i default)])) false (some []) [], Row.mk (some 9) none (encRels w0) true (some []) [], Row.mk (some 8) none (agg 2 (nth [encR v2, fz Fz.nil 3 0 fun (i : Nat) => rngC (List.getD [] i default)])) false (some []) [], Row.mk (some 7) none (encR v2) true (some []) [], Row.mk (some 6) none (agg 3 (nth [int i64 2, int i64 0, int i64 1])) false (some []) [], Row.mk (some 5) none (agg 3 (nth [int i64 1, int i64 2, int i64 2])) false (some []) [], Row.mk (some 4) none (agg 2 (nth [encR v1, fz Fz.nil 3 0 fun (i : Nat) => rngC (List.getD [] i default)])) false (some []) [], Row.mk (some 3) none (encR v1) true (some []) [], Row.mk (some 2) none (agg 3 (nth [int i64 1, int i64 0, int i64 1])) false (some []) [], Row.mk (some 1) none (agg 2 (nth [fz Fz.nil 3 0 fun (i : Nat) => rngC (List.getD [] i default), fz Fz.nil 3 0 fun (i : Nat) => rngC (List.getD [] i default)])) false (some []) []] [(0, ref 0 0)] []) [cells false 1 (nth [fz Fz.nil 0 0 fun (x x_1 : Nat) => any])] g (encRels w2) [cells false 1 (nth [fz Fz.nil 0 0 fun (x x_1 : Nat) => any])] g ∧ OpOk Try.prog R (Oper.mk (some 23) (Op.buildSlice 22 3 #[(0, Operand.tmp 9), (1, Operand.tmp 17), (2, Operand.tmp 22)]) 22 "law.go:22" #[Edge.mk 8 Ground.data, Edge.mk 16 Ground.data, Edge.mk 21 Ground.data] none) (evO [Row.mk (some 22) none (encRels w2) true (some []) [], Row.mk (some 21) none (agg 2 (nth [fz Fz.nil 3 0 fun (i : Nat) => rngC (List.getD [] i default), encR v5])) false (some []) [], Row.mk (some 20) none (encR v5) true (some []) [], Row.mk (some 19) none (agg 3 (nth [int i64 0, int i64 2, int i64 2])) false (some []) [], Row.mk (some 18) none (agg 2 (nth [fz Fz.nil 3 0 fun (i : Nat) => rngC (List.getD [] i default), fz Fz.nil 3 0 fun (i : Nat) => rngC (List.getD [] i default)])) false (some []) [], Row.mk (some 17) none (encRels w1) true (some []) [], Row.mk (some 16) none (agg 2 (nth [encR v4, fz Fz.nil 3 0 fun (i : Nat) => rngC (List.getD [] i default)])) false (some []) [], Row.mk (some 15) none (encR v4) true (some []) [], Row.mk (some 14) none (agg 3 (nth [int i64 2, int i64 1, int i64 1])) false (some []) [], Row.mk (some 13) none (agg 2 (nth [encR v3, fz Fz.nil 3 0 fun (i : Nat) => rngC (List.getD [] i default)])) false (some []) [], Row.mk (some 12) none (encR v3) true (some []) [], Row.mk (some 11) none (agg 3 (nth [int i64 2, int i64 0, int i64 0])) false (some []) [], Row.mk (some 10) none (agg 2 (nth [fz Fz.nil 3 0 fun (i : Nat) => rngC (List.getD [] i default), fz Fz.nil 3 0 fun (i : Nat) => rngC (List.getD [] i default)])) false (some []) [], Row.mk (some 9) none (encRels w0) true (some []) [], Row.mk (some 8) none (agg 2 (nth [encR v2, fz Fz.nil 3 0 fun (i : Nat) => rngC (List.getD [] i default)])) false (some []) [], Row.mk (some 7) none (encR v2) true (some []) [], Row.mk (some 6) none (agg 3 (nth [int i64 2, int i64 0, int i64 1])) false (some []) [], Row.mk (some 5) none (agg 3 (nth [int i64 1, int i64 2, int i64 2])) false (some []) [], Row.mk (some 4) none (agg 2 (nth [encR v1, fz Fz.nil 3 0 fun (i : Nat) => rngC (List.getD [] i default)])) false (some []) [], Row.mk (some 3) none (encR v1) true (some []) [], Row.mk (some 2) none (agg 3 (nth [int i64 1, int i64 0, int i64 1])) false (some []) [], Row.mk (some 1) none (agg 2 (nth [fz Fz.nil 3 0 fun (i : Nat) => rngC (List.getD [] i default), fz Fz.nil 3 0 fun (i : Nat) => rngC (List.getD [] i default)])) false (some []) []] [(0, ref 0 0)] []) [cells false 1 (nth [fz Fz.nil 0 0 fun (x x_1 : Nat) => any])] g (encPacks z) [cells false 1 (nth [fz Fz.nil 0 0 fun (x x_1 : Nat) => any])] g ∧ 1 ≤ 1 ∧ (∀ (c : Nat), c < 1 → nth [encPacks z] c = over (nth [fz Fz.nil 0 0 fun (x x_1 : Nat) => any]) 0 1 (List.brecOn (motive := fun (x : List AV) => Nat → AV) [encPacks z] nth._f) c) ∧ Q AEx.ret (St.mk [(0, ref 0 0)] [cells false 1 (nth [encPacks z])] g)) (fun _ => by kernel_rfl) ⟨(fun _ _ => ⟨rfl, (does_conv (args' := [encR (KL.mk [] Fz.nil)]) (Go.Avm.Pack.c_mkrel _ (KL.mk [] Fz.nil) _ _) (by exact ⟨Le.nil, trivial⟩) (Le.refl _))⟩), ⟨(fun _ _ => ⟨rfl, (Go.Avm.Pack.c_span _ _ _ _ _ _)⟩), ⟨?_, ⟨(fun _ _ => ⟨rfl, (Go.Avm.Pack.c_mkrel _ _ _ _)⟩), ⟨(fun _ _ => ⟨rfl, (Go.Avm.Pack.c_span _ _ _ _ _ _)⟩), ⟨(fun _ _ => ⟨rfl, (Go.Avm.Pack.c_span _ _ _ _ _ _)⟩), ⟨?_, ⟨(fun _ _ => ⟨rfl, (Go.Avm.Pack.c_mkrel _ _ _ _)⟩), ⟨?_, ⟨(fun _ _ => ⟨rfl, (does_conv (args' := [encR (KL.mk [] Fz.nil)]) (Go.Avm.Pack.c_mkrel _ (KL.mk [] Fz.nil) _ _) (by exact ⟨Le.nil, trivial⟩) (Le.refl _))⟩), ⟨(fun _ _ => ⟨rfl, (Go.Avm.Pack.c_span _ _ _ _ _ _)⟩), ⟨?_, ⟨(fun _ _ => ⟨rfl, (Go.Avm.Pack.c_mkrel _ _ _ _)⟩), ⟨(fun _ _ => ⟨rfl, (Go.Avm.Pack.c_span _ _ _ _ _ _)⟩), ⟨?_, ⟨(fun _ _ => ⟨rfl, (Go.Avm.Pack.c_mkrel _ _ _ _)⟩), ⟨?_, ⟨(fun _ _ => ⟨rfl, (does_conv (args' := [encR (KL.mk [] Fz.nil)]) (Go.Avm.Pack.c_mkrel _ (KL.mk [] Fz.nil) _ _) (by exact ⟨Le.nil, trivial⟩) (Le.refl _))⟩), ⟨(fun _ _ => ⟨rfl, (Go.Avm.Pack.c_span _ _ _ _ _ _)⟩), ⟨?_, ⟨(fun _ _ => ⟨rfl, (Go.Avm.Pack.c_mkbar _ _ _ _)⟩), ⟨?_, ⟨?_, ⟨(by omega), ⟨(fun c hc => match c, hc with | 0, _ => (by kernel_rfl) ), ?_⟩⟩⟩⟩⟩⟩⟩⟩⟩⟩⟩⟩⟩⟩⟩⟩⟩⟩⟩⟩⟩⟩⟩⟩⟩
  · subst e1; exact opOk_litB (n := 1) (es := 3) (by kernel_rfl) (by exact ⟨⟨⟨⟨trivial, trivial⟩, trivial⟩, trivial⟩, trivial⟩) rfl rfl (fun i hi j hj => match i, hi, j, hj with | 0, _, 0, _ => (by kernel_rfl) | 0, _, 1, _ => (by kernel_rfl) | 0, _, 2, _ => (by kernel_rfl) ) (fun i hi j hj => match i, hi, j, hj with | 0, _, 0, _ => trivial | 0, _, 1, _ => trivial | 0, _, 2, _ => trivial )
  · subst e2; exact opOk_litB (n := 2) (es := 3) (by kernel_rfl) (by exact ⟨⟨⟨⟨trivial, trivial⟩, trivial⟩, trivial⟩, ⟨⟨⟨⟨trivial, trivial⟩, trivial⟩, trivial⟩, trivial⟩⟩) rfl rfl (fun i hi j hj => match i, hi, j, hj with | 0, _, 0, _ => (by kernel_rfl) | 0, _, 1, _ => (by kernel_rfl) | 0, _, 2, _ => (by kernel_rfl) | 1, _, 0, _ => (by kernel_rfl) | 1, _, 1, _ => (by kernel_rfl) | 1, _, 2, _ => (by kernel_rfl) ) (fun i hi j hj => match i, hi, j, hj with | 0, _, 0, _ => trivial | 0, _, 1, _ => trivial | 0, _, 2, _ => trivial | 1, _, 0, _ => trivial | 1, _, 1, _ => trivial | 1, _, 2, _ => trivial )
  · subst e1 e2 f0; exact opOk_litB (n := 3) (es := 2) (by kernel_rfl) (by exact ⟨⟨⟨trivial, trivial⟩, trivial⟩, ⟨⟨⟨trivial, trivial⟩, trivial⟩, ⟨⟨⟨trivial, trivial⟩, trivial⟩, trivial⟩⟩⟩) rfl rfl (fun i hi j hj => match i, hi, j, hj with | 0, _, 0, _ => (by kernel_rfl) | 0, _, 1, _ => (by kernel_rfl) | 1, _, 0, _ => (by kernel_rfl) | 1, _, 1, _ => (by kernel_rfl) | 2, _, 0, _ => (by kernel_rfl) | 2, _, 1, _ => (by kernel_rfl) ) (fun i hi j hj => match i, hi, j, hj with | 0, _, 0, _ => trivial | 0, _, 1, _ => trivial | 1, _, 0, _ => trivial | 1, _, 1, _ => trivial | 2, _, 0, _ => trivial | 2, _, 1, _ => trivial )
  · subst e3; exact opOk_litB (n := 1) (es := 3) (by kernel_rfl) (by exact ⟨⟨⟨⟨trivial, trivial⟩, trivial⟩, trivial⟩, trivial⟩) rfl rfl (fun i hi j hj => match i, hi, j, hj with | 0, _, 0, _ => (by kernel_rfl) | 0, _, 1, _ => (by kernel_rfl) | 0, _, 2, _ => (by kernel_rfl) ) (fun i hi j hj => match i, hi, j, hj with | 0, _, 0, _ => trivial | 0, _, 1, _ => trivial | 0, _, 2, _ => trivial )
  · subst e4; exact opOk_litB (n := 1) (es := 3) (by kernel_rfl) (by exact ⟨⟨⟨⟨trivial, trivial⟩, trivial⟩, trivial⟩, trivial⟩) rfl rfl (fun i hi j hj => match i, hi, j, hj with | 0, _, 0, _ => (by kernel_rfl) | 0, _, 1, _ => (by kernel_rfl) | 0, _, 2, _ => (by kernel_rfl) ) (fun i hi j hj => match i, hi, j, hj with | 0, _, 0, _ => trivial | 0, _, 1, _ => trivial | 0, _, 2, _ => trivial )
  · subst e3 e4 f1; exact opOk_litB (n := 3) (es := 2) (by kernel_rfl) (by exact ⟨⟨⟨trivial, trivial⟩, trivial⟩, ⟨⟨⟨trivial, trivial⟩, trivial⟩, ⟨⟨⟨trivial, trivial⟩, trivial⟩, trivial⟩⟩⟩) rfl rfl (fun i hi j hj => match i, hi, j, hj with | 0, _, 0, _ => (by kernel_rfl) | 0, _, 1, _ => (by kernel_rfl) | 1, _, 0, _ => (by kernel_rfl) | 1, _, 1, _ => (by kernel_rfl) | 2, _, 0, _ => (by kernel_rfl) | 2, _, 1, _ => (by kernel_rfl) ) (fun i hi j hj => match i, hi, j, hj with | 0, _, 0, _ => trivial | 0, _, 1, _ => trivial | 1, _, 0, _ => trivial | 1, _, 1, _ => trivial | 2, _, 0, _ => trivial | 2, _, 1, _ => trivial )
  · subst e5; exact opOk_litB (n := 1) (es := 3) (by kernel_rfl) (by exact ⟨⟨⟨⟨trivial, trivial⟩, trivial⟩, trivial⟩, trivial⟩) rfl rfl (fun i hi j hj => match i, hi, j, hj with | 0, _, 0, _ => (by kernel_rfl) | 0, _, 1, _ => (by kernel_rfl) | 0, _, 2, _ => (by kernel_rfl) ) (fun i hi j hj => match i, hi, j, hj with | 0, _, 0, _ => trivial | 0, _, 1, _ => trivial | 0, _, 2, _ => trivial )
  · subst e5 f2; exact opOk_litB (n := 2) (es := 2) (by kernel_rfl) (by exact ⟨⟨⟨trivial, trivial⟩, trivial⟩, ⟨⟨⟨trivial, trivial⟩, trivial⟩, trivial⟩⟩) rfl rfl (fun i hi j hj => match i, hi, j, hj with | 0, _, 0, _ => (by kernel_rfl) | 0, _, 1, _ => (by kernel_rfl) | 1, _, 0, _ => (by kernel_rfl) | 1, _, 1, _ => (by kernel_rfl) ) (fun i hi j hj => match i, hi, j, hj with | 0, _, 0, _ => trivial | 0, _, 1, _ => trivial | 1, _, 0, _ => trivial | 1, _, 1, _ => trivial )
  · subst hz e1 e2 e3 e4 e5 f0 f1 f2; exact opOk_litB (n := 3) (es := 1) (by kernel_rfl) (by exact ⟨trivial, ⟨trivial, ⟨trivial, trivial⟩⟩⟩) rfl rfl (fun i hi j hj => match i, hi, j, hj with | 0, _, 0, _ => (by kernel_rfl) | 1, _, 0, _ => (by kernel_rfl) | 2, _, 0, _ => (by kernel_rfl) ) (fun i hi j hj => match i, hi, j, hj with | 0, _, 0, _ => trivial | 1, _, 0, _ => trivial | 2, _, 0, _ => trivial )
  · refine (retQ_le (retQ_drop (agg 1 (nth [fz z.2 1 (List.length z.l) fun (i x : Nat) => fz (List.getD z.l i default).2 2 (List.length (List.getD z.l i default).l) fun (i_1 : Nat) => relC (List.getD (List.getD z.l i default).l i_1 default)])) ([0 + (TyI.mk ((fun (x : TypeInfo) => x.desc) Try.prog.types[23]) Try.prog.types[24].size Try.prog.types[24].bytes (cellA (ofVal (Value.agg #[Value.slice none 0 0]))) (isAggD ((fun (x : TypeInfo) => x.desc) Try.prog.types[23])) (flatTy Try.prog 24)).size ≤ 1]) (by kernel_rfl) (by exact ⟨(by decide), trivial⟩) ⟨trivial, trivial⟩ rfl) (Le.of_eq (by kernel_rfl)))
end Go.Avm.Pack
namespace Go.Avm.Pack
open Go Go.Avm Go.Proofs
open Go.IntKind (i64 u64)
open Go.Avm.AV (int bool any fz fp sl ow ref fn ifc val agg tup)
open Go.Avm.AObj (cells dead)
open Go.Avm.Oc (ret)
set_option maxRecDepth 4000
theorem ext_getD {α : Type} [DecidableEq α] {a b : List α} (d : α) (h : a.length = b.length) (h2 : ∀ j, j < a.length → a.getD j d = b.getD j d) : a = b :=
  List.ext_getElem h (fun j h3 h4 => by have := h2 j h3; simpa [List.getD, h3, h4] using this)
theorem ne_getD {α : Type} {a b : List α} {d : α} {j : Nat} (h : a.getD j d ≠ b.getD j d) : a ≠ b := fun e => h (by rw [e])
theorem c_SameInts (R : Res) (a b : KL Int) (hp : List AObj) (g : R.σ) (hl : a.l.length < 1000000) : Does Try.prog R 18 [encI a, encI b] hp g (.ret (.bool (decide (a.l = b.l)))) hp g := by
  refine does_any' (fun R g => ?_) (by exact ⟨trivial, ⟨trivial, trivial⟩⟩) R hp g
  refine spec_of_wp (nt := 33) (rs := [.tmp 4]) (k0 := 0) (by kernel_rfl) (by kernel_rfl) (by kernel_rfl) rfl ?_
  refine vcQ [] (lkL [(0, [0, 1]), (1, [0, 1, 5])]) (fun _ => []) (fun (Q : AEx → St R.σ → Prop) => Wp Try.prog R 33 0 Rd.top (bodyOf Try.prog 18) [1, 0, 1, 0] (contQ Try.prog R 33 0 Rd.top (bodyOf Try.prog 18) Q [Kont.blk 0, Kont.seq [1, 1]]) (St.mk [(0, encI a), (1, encI b), (5, int i64 0)] [] g)) (fun _ => by kernel_rfl) (?_)
  refine (wp_loop (by kernel_rfl) (fun (i : Nat) => ⟨[(0, encI a), (1, encI b), (5, .int .i64 (i : Int))], [], g⟩) (fun (i : Nat) => (i ≤ a.l.length ∧ ∀ j, j < i → a.l.getD j 0 = b.l.getD j 0)) (fun (i : Nat) => (a.l.length - i)) 0 (to_fr ⟨(Le.refl _), ⟨(Le.refl _), ⟨(Le.of_eq (by kernel_rfl)), trivial⟩⟩⟩ rfl rfl) ?_ (fun i hi => ?_))
  · exact ⟨Nat.zero_le _, fun j hj => absurd hj (by omega)⟩
  · obtain ⟨h1, h2⟩ := hi
    refine vcQ [] (lkL [(2, [0, 1, 5, 16]), (4, [0, 1, 5, 27]), (5, [4]), (3, [0, 1, 5])]) (fun _ => []) (fun (Q : AEx → St R.σ → Prop) => ((bif decide ((↑i : Int) < (↑(List.length a.l) : Int)) then (↑(List.length a.l) : Int) == (↑(List.length b.l) : Int) else false) = true → Tables.follows Try.prog.toTables Departure.mixedOrders = true ∧ (0 ≤ (↑i : Int) ∧ (↑i : Int) < (↑(List.length a.l) : Int)) ∧ 1 ≤ 1 ∧ (0 ≤ (↑i : Int) ∧ (↑i : Int) < (↑(List.length b.l) : Int)) ∧ 1 ≤ 1 ∧ ((List.getD a.l i 0 != List.getD b.l i 0) = true → Q AEx.ret (St.mk [(4, AV.bool false)] [] g)) ∧ ((List.getD a.l i 0 != List.getD b.l i 0) = false → (-9223372036854775808 ≤ (↑i : Int) + 1 ∧ (↑i : Int) + 1 ≤ 9223372036854775807) ∧ Q AEx.normal (St.mk [(0, encI a), (1, encI b), (5, int i64 ((↑i : Int) + 1))] [] g))) ∧ ((bif decide ((↑i : Int) < (↑(List.length a.l) : Int)) then (↑(List.length a.l) : Int) == (↑(List.length b.l) : Int) else false) = false → Q (AEx.exit 0) (St.mk [(0, encI a), (1, encI b), (5, int i64 (↑i : Int)), (16, AV.bool (bif decide ((↑i : Int) < (↑(List.length a.l) : Int)) then (↑(List.length a.l) : Int) == (↑(List.length b.l) : Int) else false))] [] g))) (fun _ => by kernel_rfl) ⟨fun c1 => have c1 : (↑i : Int) < (↑(List.length a.l) : Int) ∧ (↑(List.length a.l) : Int) = (↑(List.length b.l) : Int) := ⟨(of_decide_eq_true (cA_t c1).1), (beq_iff_eq.mp (cA_t c1).2)⟩; ⟨(by kernel_rfl), ⟨(by omega), ⟨(by omega), ⟨(by omega), ⟨(by omega), ⟨fun c2 => have c2 : ¬List.getD a.l i 0 = List.getD b.l i 0 := (bne_iff_ne.mp c2); ?_, fun c2 => have c2 : List.getD a.l i 0 = List.getD b.l i 0 := (bne_eq_false_iff_eq.mp c2); ⟨(by omega), ?_⟩⟩⟩⟩⟩⟩⟩, fun c1 => have c1 : ¬(↑i : Int) < (↑(List.length a.l) : Int) ∨ ¬(↑(List.length a.l) : Int) = (↑(List.length b.l) : Int) := ((cA_f c1).imp (fun h => (of_decide_eq_false h)) (fun h => (beq_eq_false_iff_ne.mp h))); ?_⟩
    · refine ⟨_, To.refl _, (retQ_le (retQ_same' _ _ rfl trivial rfl rfl rfl) (Le.of_eq ?_))⟩
      show (AV.bool false) = _
      congr 1
      have : a.l ≠ b.l := ne_getD (j := i) (d := 0) c2
      simp [this]
    · refine (next_round (i + 1) (to_fr ⟨(Le.refl _), ⟨(Le.refl _), ⟨(Le.of_eq (by kernel_rfl)), trivial⟩⟩⟩ rfl rfl) ?_ ?_)
      · refine ⟨by omega, fun j hj => ?_⟩
        rcases Nat.lt_or_ge j i with h | h
        · exact h2 j h
        · have : j = i := by omega
          subst this; exact c2
      · omega
    · have c := c1
      refine ⟨_, To.refl _, vcQ [] (lkL [(6, [4])]) (fun _ => []) (fun (Q : AEx → St R.σ → Prop) => Q AEx.ret (St.mk [(4, AV.bool ((↑(List.length a.l) : Int) == (↑(List.length b.l) : Int)))] [] g)) (fun _ => by kernel_rfl) (?_)⟩
      refine (retQ_le (retQ_same' _ _ rfl trivial rfl rfl rfl) (Le.of_eq ?_))
      show (AV.bool ((↑(List.length a.l) : Int) == (↑(List.length b.l) : Int))) = _
      congr 1
      by_cases hab : a.l.length = b.l.length
      · have : a.l = b.l := ext_getD 0 hab (fun j hj => h2 j (by omega))
        simp [this]
      · have : a.l ≠ b.l := fun e => hab (by rw [e])
        simp [this]
        omega
def eqC (c d : Clause) : Bool := (c.pack == d.pack) && ((c.rel == d.rel) && ((c.bar == d.bar) && ((c.which == d.which) && true)))
theorem eqC_iff {c d : Clause} : eqC c d = true ↔ c = d := by
  cases c; cases d
  simp [eqC]
theorem c_SameClauses (R : Res) (a b : KL Clause) (hp : List AObj) (g : R.σ) (hl : a.l.length < 1000000) : Does Try.prog R 21 [encC a, encC b] hp g (.ret (.bool (decide (a.l = b.l)))) hp g := by
  refine does_any' (fun R g => ?_) (by exact ⟨trivial, ⟨trivial, trivial⟩⟩) R hp g
  refine spec_of_wp (nt := 33) (rs := [.tmp 4]) (k0 := 0) (by kernel_rfl) (by kernel_rfl) (by kernel_rfl) rfl ?_
  refine vcQ [] (lkL [(0, [0, 1]), (1, [0, 1, 5])]) (fun _ => []) (fun (Q : AEx → St R.σ → Prop) => Wp Try.prog R 33 0 Rd.top (bodyOf Try.prog 21) [1, 0, 1, 0] (contQ Try.prog R 33 0 Rd.top (bodyOf Try.prog 21) Q [Kont.blk 0, Kont.seq [1, 1]]) (St.mk [(0, encC a), (1, encC b), (5, int i64 0)] [] g)) (fun _ => by kernel_rfl) (?_)
  refine (wp_loop (by kernel_rfl) (fun (i : Nat) => ⟨[(0, encC a), (1, encC b), (5, .int .i64 (i : Int))], [], g⟩) (fun (i : Nat) => (i ≤ a.l.length ∧ ∀ j, j < i → a.l.getD j default = b.l.getD j default)) (fun (i : Nat) => (a.l.length - i)) 0 (to_fr ⟨(Le.refl _), ⟨(Le.refl _), ⟨(Le.of_eq (by kernel_rfl)), trivial⟩⟩⟩ rfl rfl) ?_ (fun i hi => ?_))
  · exact ⟨Nat.zero_le _, fun j hj => absurd hj (by omega)⟩
  · obtain ⟨h1, h2⟩ := hi
    refine vcQ [] (lkL [(2, [0, 1, 5, 16]), (4, [0, 1, 5, 27]), (5, [4]), (3, [0, 1, 5])]) (fun _ => []) (fun (Q : AEx → St R.σ → Prop) => ((bif decide ((↑i : Int) < (↑(List.length a.l) : Int)) then (↑(List.length a.l) : Int) == (↑(List.length b.l) : Int) else false) = true → Tables.follows Try.prog.toTables Departure.mixedOrders = true ∧ (0 ≤ (↑i : Int) ∧ (↑i : Int) < (↑(List.length a.l) : Int)) ∧ 4 ≤ 4 ∧ (0 ≤ (↑i : Int) ∧ (↑i : Int) < (↑(List.length b.l) : Int)) ∧ 4 ≤ 4 ∧ ((!((List.getD a.l i default).pack == (List.getD b.l i default).pack && ((List.getD a.l i default).rel == (List.getD b.l i default).rel && ((List.getD a.l i default).bar == (List.getD b.l i default).bar && ((List.getD a.l i default).which == (List.getD b.l i default).which && true))))) = true → Q AEx.ret (St.mk [(4, AV.bool false)] [] g)) ∧ ((!((List.getD a.l i default).pack == (List.getD b.l i default).pack && ((List.getD a.l i default).rel == (List.getD b.l i default).rel && ((List.getD a.l i default).bar == (List.getD b.l i default).bar && ((List.getD a.l i default).which == (List.getD b.l i default).which && true))))) = false → (-9223372036854775808 ≤ (↑i : Int) + 1 ∧ (↑i : Int) + 1 ≤ 9223372036854775807) ∧ Q AEx.normal (St.mk [(0, encC a), (1, encC b), (5, int i64 ((↑i : Int) + 1))] [] g))) ∧ ((bif decide ((↑i : Int) < (↑(List.length a.l) : Int)) then (↑(List.length a.l) : Int) == (↑(List.length b.l) : Int) else false) = false → Q (AEx.exit 0) (St.mk [(0, encC a), (1, encC b), (5, int i64 (↑i : Int)), (16, AV.bool (bif decide ((↑i : Int) < (↑(List.length a.l) : Int)) then (↑(List.length a.l) : Int) == (↑(List.length b.l) : Int) else false))] [] g))) (fun _ => by kernel_rfl) ⟨fun c1 => have c1 : (↑i : Int) < (↑(List.length a.l) : Int) ∧ (↑(List.length a.l) : Int) = (↑(List.length b.l) : Int) := ⟨(of_decide_eq_true (cA_t c1).1), (beq_iff_eq.mp (cA_t c1).2)⟩; ⟨(by kernel_rfl), ⟨(by omega), ⟨(by omega), ⟨(by omega), ⟨(by omega), ⟨fun c2 => have c2 : ((List.getD a.l i default).pack == (List.getD b.l i default).pack && ((List.getD a.l i default).rel == (List.getD b.l i default).rel && ((List.getD a.l i default).bar == (List.getD b.l i default).bar && ((List.getD a.l i default).which == (List.getD b.l i default).which && true)))) = false := ((Bool.not_eq_true' _).mp c2); ?_, fun c2 => have c2 : ((List.getD a.l i default).pack == (List.getD b.l i default).pack && ((List.getD a.l i default).rel == (List.getD b.l i default).rel && ((List.getD a.l i default).bar == (List.getD b.l i default).bar && ((List.getD a.l i default).which == (List.getD b.l i default).which && true)))) = true := ((Bool.not_eq_false' _).mp c2); ⟨(by omega), ?_⟩⟩⟩⟩⟩⟩⟩, fun c1 => have c1 : ¬(↑i : Int) < (↑(List.length a.l) : Int) ∨ ¬(↑(List.length a.l) : Int) = (↑(List.length b.l) : Int) := ((cA_f c1).imp (fun h => (of_decide_eq_false h)) (fun h => (beq_eq_false_iff_ne.mp h))); ?_⟩
    · have c2 : eqC (a.l.getD i default) (b.l.getD i default) = false := c2
      refine ⟨_, To.refl _, (retQ_le (retQ_same' _ _ rfl trivial rfl rfl rfl) (Le.of_eq ?_))⟩
      show (AV.bool false) = _
      congr 1
      have : a.l ≠ b.l := ne_getD (j := i) (d := default) (fun e => by rw [eqC_iff.2 e] at c2; cases c2)
      simp [this]
    · have c2 : eqC (a.l.getD i default) (b.l.getD i default) = true := c2
      refine (next_round (i + 1) (to_fr ⟨(Le.refl _), ⟨(Le.refl _), ⟨(Le.of_eq (by kernel_rfl)), trivial⟩⟩⟩ rfl rfl) ?_ ?_)
      · refine ⟨by omega, fun j hj => ?_⟩
        rcases Nat.lt_or_ge j i with h | h
        · exact h2 j h
        · have : j = i := by omega
          subst this; exact eqC_iff.1 c2
      · omega
    · have c := c1
      refine ⟨_, To.refl _, vcQ [] (lkL [(6, [4])]) (fun _ => []) (fun (Q : AEx → St R.σ → Prop) => Q AEx.ret (St.mk [(4, AV.bool ((↑(List.length a.l) : Int) == (↑(List.length b.l) : Int)))] [] g)) (fun _ => by kernel_rfl) (?_)⟩
      refine (retQ_le (retQ_same' _ _ rfl trivial rfl rfl rfl) (Le.of_eq ?_))
      show (AV.bool ((↑(List.length a.l) : Int) == (↑(List.length b.l) : Int))) = _
      congr 1
      by_cases hab : a.l.length = b.l.length
      · have : a.l = b.l := ext_getD default hab (fun j hj => h2 j (by omega))
        simp [this]
      · have : a.l ≠ b.l := fun e => hab (by rw [e])
        simp [this]
        omega
end Go.Avm.Pack
namespace Go.Avm.Pack
open Go Go.Avm Go.Proofs
open Go.IntKind (i64 u64)
open Go.Avm.AV (int bool any fz fp sl ow ref fn ifc val agg tup)
open Go.Avm.AObj (cells dead)
open Go.Avm.Oc (ret)
set_option maxRecDepth 4000
def aG1 : KL Rng := ⟨[⟨0, 0, 2⟩], .exa⟩
def aG2 : KL Rng := ⟨[⟨0, 2, 2⟩], .exa⟩
def aI1 : KL Int := ⟨[2, 2, 1], .exa⟩
def aI2 : KL Int := ⟨[-1, 1, 0], .exa⟩
def aI3 : KL Int := ⟨[1, 1, 0], .exa⟩
def aC1 : KL Clause := ⟨[⟨-1, 0, false, 0⟩, ⟨0, 2, false, 0⟩, ⟨1, 2, false, 0⟩, ⟨2, 1, true, 0⟩], .exa⟩
theorem small_aIx : small aIx := by
  refine ⟨by decide, fun i => ?_⟩
  match i with
  | 0 => decide
  | 1 => decide
  | 2 => decide
  | _ + 3 => exact (by decide : (default : KL Rel).l.length < 1000000)
theorem ex_fault : faultR aIx aG1.l aI1.l = (3, 2, 0) := by kernel_rfl
theorem ex_best : bestR aIx aG1.l = ([1, 1, 0], 0) := by kernel_rfl
theorem ex_core : coreR aIx aG2.l = (aC1.l, 0) := by kernel_rfl
theorem ex_near : nearR aIx aG1.l aI2.l = ([1, 1, 0], 1, 0) := by kernel_rfl
theorem c_works (R : Res) (hp : List AObj) (g : R.σ) : Does Try.prog R 10 [] hp g (.ret (.bool true)) hp g := by
  refine does_any' (fun R g => ?_) (by exact trivial) R hp g
  have hs := small_aIx
  have f1 := ex_fault
  have f2 := ex_best
  have f3 := ex_core
  have f4 := ex_near
  have l1 : aG1.l.length < 1000000 := by decide
  have l2 : aG2.l.length < 1000000 := by decide
  have l3 : (bestR aIx aG1.l).1.length < 1000000 := by rw [f2]; decide
  have l4 : (coreR aIx aG2.l).1.length < 1000000 := by rw [f3]; decide
  have l5 : (nearR aIx aG1.l aI2.l).1.length < 1000000 := by rw [f4]; decide
  have e1 : aC1.l = aC1.l := rfl
  obtain ⟨z, hz⟩ : ∃ v, v = aIx := ⟨_, rfl⟩
  obtain ⟨g1, hg1⟩ : ∃ v, v = aG1 := ⟨_, rfl⟩
  obtain ⟨g2, hg2⟩ : ∃ v, v = aG2 := ⟨_, rfl⟩
  obtain ⟨i1, hi1⟩ : ∃ v, v = aI1 := ⟨_, rfl⟩
  obtain ⟨i2, hi2⟩ : ∃ v, v = aI2 := ⟨_, rfl⟩
  obtain ⟨i3, hi3⟩ : ∃ v, v = aI3 := ⟨_, rfl⟩
  obtain ⟨k1, hk1⟩ : ∃ v, v = aC1 := ⟨_, rfl⟩
  rw [← hz] at hs f1 f2 f3 f4 l3 l4 l5
  rw [← hg1] at f1 f2 f4 l1 l3 l5
  rw [← hg2] at f3 l2 l4
  rw [← hi1] at f1
  rw [← hi2] at f4 l5
  rw [← hk1] at f3
  refine spec_of_wp (nt := 90) (rs := [.tmp 0]) (k0 := 0) (by kernel_rfl) (by kernel_rfl) (by kernel_rfl) rfl ?_
  refine vcQ [] (lkL [(1, [1, 2, 3]), (2, [1, 2, 3, 4, 5]), (3, [1, 2, 3, 4, 5, 6, 7]), (4, [1, 2, 3, 4, 5, 6, 7, 8, 9, 10]), (5, [1, 2, 4, 6, 8, 9, 60]), (6, [0]), (7, [0])]) (lkL [(1, [(0, ROrc.pcall (encIx z)), (1, ROrc.pcall (encRng (Rng.mk 0 0 2))), (2, ROrc.kop (encR g1)), (3, ROrc.pcall (encR g1)), (4, ROrc.kop (encI i1)), (5, ROrc.pcall (tup 3 (nth [int i64 (faultR z g1.l i1.l).fst, int i64 (faultR z g1.l i1.l).snd.fst, int i64 (faultR z g1.l i1.l).snd.snd])))]), (2, [(0, ROrc.pcall (encIx z)), (1, ROrc.pcall (encRng (Rng.mk 0 0 2))), (2, ROrc.kop (encR g1)), (3, ROrc.pcall (encR g1)), (4, ROrc.pcall (tup 2 (nth [encI (KL.mk (bestR z g1.l).fst Fz.auto), int i64 (bestR z g1.l).snd])))]), (3, [(0, ROrc.pcall (encIx z)), (1, ROrc.pcall (encRng (Rng.mk 0 2 2))), (2, ROrc.kop (encR g2)), (3, ROrc.pcall (encR g2)), (4, ROrc.pcall (tup 2 (nth [encC (KL.mk (coreR z g2.l).fst Fz.may), int i64 (coreR z g2.l).snd])))]), (4, [(0, ROrc.pcall (encIx z)), (1, ROrc.pcall (encRng (Rng.mk 0 0 2))), (2, ROrc.kop (encR g1)), (3, ROrc.pcall (encR g1)), (4, ROrc.kop (encI i2)), (5, ROrc.pcall (tup 3 (nth [encI (KL.mk (nearR z g1.l i2.l).fst Fz.auto), int i64 (nearR z g1.l i2.l).snd.fst, int i64 (nearR z g1.l i2.l).snd.snd])))]), (7, [(8, ROrc.kop (encI i3)), (9, ROrc.pcall (AV.bool (decide ((KL.mk (bestR z g1.l).1 Fz.auto).l = i3.l)))), (17, ROrc.kop (encC k1)), (18, ROrc.pcall (AV.bool (decide ((KL.mk (coreR z g2.l).1 Fz.may).l = k1.l)))), (22, ROrc.kop (encI i3)), (23, ROrc.pcall (AV.bool (decide ((KL.mk (nearR z g1.l i2.l).1 Fz.auto).l = i3.l))))])]) (fun (Q : AEx → St R.σ → Prop) => (∀ (hp : List AObj) (g : R.σ), true = true ∧ Does Try.prog R 40 [] hp g (ret (encIx z)) hp g) ∧ (∀ (hp : List AObj) (g : R.σ), true = true ∧ Does Try.prog R 42 [int i64 0, int i64 0, int i64 2] hp g (ret (agg 3 (nth [int i64 0, int i64 0, int i64 2]))) hp g) ∧ OpOk Try.prog R (Oper.mk (some 14) (Op.buildSlice 25 1 #[(0, Operand.tmp 13)]) 25 "law.go:34" #[Edge.mk 1 Ground.data] none) (evO [Row.mk (some 13) none (agg 3 (nth [int i64 0, int i64 0, int i64 2])) false (some []) [], Row.mk (some 12) none (encIx z) false (some []) []] [] []) [] g (encR g1) [] g ∧ (∀ (hp : List AObj) (g : R.σ), true = true ∧ Does Try.prog R 41 [encR g1] hp g (ret (encR g1)) hp g) ∧ OpOk Try.prog R (Oper.mk (some 16) (Op.buildSlice 26 3 #[(0, Operand.const (Value.int i64 2)), (1, Operand.const (Value.int i64 2)), (2, Operand.const (Value.int i64 1))]) 26 "law.go:34" #[] none) (evO [Row.mk (some 15) none (encR g1) false (some []) [], Row.mk (some 14) none (encR g1) true (some []) [], Row.mk (some 13) none (agg 3 (nth [int i64 0, int i64 0, int i64 2])) false (some []) [], Row.mk (some 12) none (encIx z) false (some []) []] [] []) [] g (encI i1) [] g ∧ (∀ (hp : List AObj) (g : R.σ), true = true ∧ Does Try.prog R 12 [encIx z, encR g1, encI i1] hp g (ret (tup 3 (nth [int i64 (faultR z g1.l i1.l).fst, int i64 (faultR z g1.l i1.l).snd.fst, int i64 (faultR z g1.l i1.l).snd.snd]))) hp g) ∧ (∀ (hp : List AObj) (g : R.σ), true = true ∧ Does Try.prog R 40 [] hp g (ret (encIx z)) hp g) ∧ (∀ (hp : List AObj) (g : R.σ), true = true ∧ Does Try.prog R 42 [int i64 0, int i64 0, int i64 2] hp g (ret (agg 3 (nth [int i64 0, int i64 0, int i64 2]))) hp g) ∧ OpOk Try.prog R (Oper.mk (some 24) (Op.buildSlice 25 1 #[(0, Operand.tmp 23)]) 25 "law.go:35" #[Edge.mk 1 Ground.data] none) (evO [Row.mk (some 23) none (agg 3 (nth [int i64 0, int i64 0, int i64 2])) false (some []) [], Row.mk (some 22) none (encIx z) false (some []) []] [(1, int i64 (faultR z g1.l i1.l).fst), (2, int i64 (faultR z g1.l i1.l).snd.fst), (3, int i64 (faultR z g1.l i1.l).snd.snd)] []) [] g (encR g1) [] g ∧ (∀ (hp : List AObj) (g : R.σ), true = true ∧ Does Try.prog R 41 [encR g1] hp g (ret (encR g1)) hp g) ∧ (∀ (hp : List AObj) (g : R.σ), true = true ∧ Does Try.prog R 16 [encIx z, encR g1] hp g (ret (tup 2 (nth [fz Fz.auto 1 (List.length (bestR z g1.l).fst) fun (i x : Nat) => int i64 (List.getD (bestR z g1.l).fst i 0), int i64 (bestR z g1.l).snd]))) hp g) ∧ (∀ (hp : List AObj) (g : R.σ), true = true ∧ Does Try.prog R 40 [] hp g (ret (encIx z)) hp g) ∧ (∀ (hp : List AObj) (g : R.σ), true = true ∧ Does Try.prog R 42 [int i64 0, int i64 2, int i64 2] hp g (ret (agg 3 (nth [int i64 0, int i64 2, int i64 2]))) hp g) ∧ OpOk Try.prog R (Oper.mk (some 32) (Op.buildSlice 25 1 #[(0, Operand.tmp 31)]) 25 "law.go:36" #[Edge.mk 1 Ground.data] none) (evO [Row.mk (some 31) none (agg 3 (nth [int i64 0, int i64 2, int i64 2])) false (some []) [], Row.mk (some 30) none (encIx z) false (some []) []] [(1, int i64 (faultR z g1.l i1.l).fst), (2, int i64 (faultR z g1.l i1.l).snd.fst), (3, int i64 (faultR z g1.l i1.l).snd.snd), (4, fz Fz.auto 1 (List.length (bestR z g1.l).fst) fun (i x : Nat) => int i64 (List.getD (bestR z g1.l).fst i 0)), (5, int i64 (bestR z g1.l).snd)] []) [] g (encR g2) [] g ∧ (∀ (hp : List AObj) (g : R.σ), true = true ∧ Does Try.prog R 41 [encR g2] hp g (ret (encR g2)) hp g) ∧ (∀ (hp : List AObj) (g : R.σ), true = true ∧ Does Try.prog R 19 [encIx z, encR g2] hp g (ret (tup 2 (nth [fz Fz.may 4 (List.length (coreR z g2.l).fst) fun (i : Nat) => clC (List.getD (coreR z g2.l).fst i default), int i64 (coreR z g2.l).snd]))) hp g) ∧ (∀ (hp : List AObj) (g : R.σ), true = true ∧ Does Try.prog R 40 [] hp g (ret (encIx z)) hp g) ∧ (∀ (hp : List AObj) (g : R.σ), true = true ∧ Does Try.prog R 42 [int i64 0, int i64 0, int i64 2] hp g (ret (agg 3 (nth [int i64 0, int i64 0, int i64 2]))) hp g) ∧ OpOk Try.prog R (Oper.mk (some 40) (Op.buildSlice 25 1 #[(0, Operand.tmp 39)]) 25 "law.go:37" #[Edge.mk 1 Ground.data] none) (evO [Row.mk (some 39) none (agg 3 (nth [int i64 0, int i64 0, int i64 2])) false (some []) [], Row.mk (some 38) none (encIx z) false (some []) []] [(1, int i64 (faultR z g1.l i1.l).fst), (2, int i64 (faultR z g1.l i1.l).snd.fst), (3, int i64 (faultR z g1.l i1.l).snd.snd), (4, fz Fz.auto 1 (List.length (bestR z g1.l).fst) fun (i x : Nat) => int i64 (List.getD (bestR z g1.l).fst i 0)), (5, int i64 (bestR z g1.l).snd), (6, fz Fz.may 4 (List.length (coreR z g2.l).fst) fun (i : Nat) => clC (List.getD (coreR z g2.l).fst i default)), (7, int i64 (coreR z g2.l).snd)] []) [] g (encR g1) [] g ∧ (∀ (hp : List AObj) (g : R.σ), true = true ∧ Does Try.prog R 41 [encR g1] hp g (ret (encR g1)) hp g) ∧ OpOk Try.prog R (Oper.mk (some 42) (Op.buildSlice 26 3 #[(0, Operand.const (Value.int i64 (-1))), (1, Operand.const (Value.int i64 1)), (2, Operand.const (Value.int i64 0))]) 26 "law.go:37" #[] none) (evO [Row.mk (some 41) none (encR g1) false (some []) [], Row.mk (some 40) none (encR g1) true (some []) [], Row.mk (some 39) none (agg 3 (nth [int i64 0, int i64 0, int i64 2])) false (some []) [], Row.mk (some 38) none (encIx z) false (some []) []] [(1, int i64 (faultR z g1.l i1.l).fst), (2, int i64 (faultR z g1.l i1.l).snd.fst), (3, int i64 (faultR z g1.l i1.l).snd.snd), (4, fz Fz.auto 1 (List.length (bestR z g1.l).fst) fun (i x : Nat) => int i64 (List.getD (bestR z g1.l).fst i 0)), (5, int i64 (bestR z g1.l).snd), (6, fz Fz.may 4 (List.length (coreR z g2.l).fst) fun (i : Nat) => clC (List.getD (coreR z g2.l).fst i default)), (7, int i64 (coreR z g2.l).snd)] []) [] g (encI i2) [] g ∧ (∀ (hp : List AObj) (g : R.σ), true = true ∧ Does Try.prog R 22 [encIx z, encR g1, encI i2] hp g (ret (tup 3 (nth [fz Fz.auto 1 (List.length (nearR z g1.l i2.l).fst) fun (i x : Nat) => int i64 (List.getD (nearR z g1.l i2.l).fst i 0), int i64 (nearR z g1.l i2.l).snd.fst, int i64 (nearR z g1.l i2.l).snd.snd]))) hp g) ∧ ((bif bif bif (faultR z g1.l i1.l).snd.snd != 0 then true else (bestR z g1.l).snd != 0 then true else (coreR z g2.l).snd != 0 then true else (nearR z g1.l i2.l).snd.snd != 0) = true → Q AEx.ret (St.mk [(0, AV.bool false)] [] g)) ∧ ((bif bif bif (faultR z g1.l i1.l).snd.snd != 0 then true else (bestR z g1.l).snd != 0 then true else (coreR z g2.l).snd != 0 then true else (nearR z g1.l i2.l).snd.snd != 0) = false → ((bif (faultR z g1.l i1.l).fst == 3 then (faultR z g1.l i1.l).snd.fst == 2 else false) = true → OpOk Try.prog R (Oper.mk (some 69) (Op.buildSlice 26 3 #[(0, Operand.const (Value.int i64 1)), (1, Operand.const (Value.int i64 1)), (2, Operand.const (Value.int i64 0))]) 26 "law.go:41" #[Edge.mk 6 Ground.guard] (some (6, true))) (evO [Row.mk (some 68) (some (6, true)) (fz Fz.auto 1 (List.length (bestR z g1.l).fst) fun (i x : Nat) => int i64 (List.getD (bestR z g1.l).fst i 0)) false (some []) [], Row.mk (some 67) none (AV.bool (bif (faultR z g1.l i1.l).fst == 3 then (faultR z g1.l i1.l).snd.fst == 2 else false)) false (some []) [], Row.mk (some 66) none (AV.bool (bif (faultR z g1.l i1.l).fst == 3 then (faultR z g1.l i1.l).snd.fst == 2 else false)) false (some []) [], Row.mk (some 65) (some (2, true)) (AV.bool ((faultR z g1.l i1.l).snd.fst == 2)) false (some []) [], Row.mk (some 64) (some (2, true)) (int i64 (faultR z g1.l i1.l).snd.fst) false (some []) [], Row.mk (some 63) none (AV.bool ((faultR z g1.l i1.l).fst == 3)) false (some []) [], Row.mk (some 62) none (AV.bool ((faultR z g1.l i1.l).fst == 3)) false (some []) [], Row.mk (some 61) none (int i64 (faultR z g1.l i1.l).fst) false (some []) []] [(1, int i64 (faultR z g1.l i1.l).fst), (2, int i64 (faultR z g1.l i1.l).snd.fst), (4, fz Fz.auto 1 (List.length (bestR z g1.l).fst) fun (i x : Nat) => int i64 (List.getD (bestR z g1.l).fst i 0)), (6, fz Fz.may 4 (List.length (coreR z g2.l).fst) fun (i : Nat) => clC (List.getD (coreR z g2.l).fst i default)), (8, fz Fz.auto 1 (List.length (nearR z g1.l i2.l).fst) fun (i x : Nat) => int i64 (List.getD (nearR z g1.l i2.l).fst i 0)), (9, int i64 (nearR z g1.l i2.l).snd.fst), (60, AV.bool (bif bif bif (faultR z g1.l i1.l).snd.snd != 0 then true else (bestR z g1.l).snd != 0 then true else (coreR z g2.l).snd != 0 then true else (nearR z g1.l i2.l).snd.snd != 0))] [(6, true)]) [] g (encI i3) [] g) ∧ ((bif (faultR z g1.l i1.l).fst == 3 then (faultR z g1.l i1.l).snd.fst == 2 else false) = true → ∀ (hp : List AObj) (g : R.σ), true = true ∧ Does Try.prog R 18 [fz Fz.auto 1 (List.length (bestR z g1.l).fst) fun (i x : Nat) => int i64 (List.getD (bestR z g1.l).fst i 0), encI i3] hp g (ret (AV.bool (decide ((bestR z g1.l).1 = i3.l)))) hp g) ∧ ((bif bif (faultR z g1.l i1.l).fst == 3 then (faultR z g1.l i1.l).snd.fst == 2 else false then decide ((bestR z g1.l).1 = i3.l) else false) = true → OpOk Try.prog R (Oper.mk (some 78) (Op.buildSlice 42 4 #[(0, Operand.tmp 74), (1, Operand.tmp 75), (2, Operand.tmp 76), (3, Operand.tmp 77)]) 42 "law.go:41" #[Edge.mk 13 Ground.data, Edge.mk 14 Ground.data, Edge.mk 15 Ground.data, Edge.mk 16 Ground.data, Edge.mk 11 Ground.guard] (some (11, true))) (evO [Row.mk (some 77) (some (11, true)) (agg 4 (nth [int i64 2, int i64 1, AV.bool true, int i64 0])) false (some []) [], Row.mk (some 76) (some (11, true)) (agg 4 (nth [int i64 1, int i64 2, AV.bool false, int i64 0])) false (some []) [], Row.mk (some 75) (some (11, true)) (agg 4 (nth [int i64 0, int i64 2, AV.bool false, int i64 0])) false (some []) [], Row.mk (some 74) (some (11, true)) (agg 4 (nth [int i64 (-1), int i64 0, AV.bool false, int i64 0])) false (some []) [], Row.mk (some 73) (some (11, true)) (fz Fz.may 4 (List.length (coreR z g2.l).fst) fun (i : Nat) => clC (List.getD (coreR z g2.l).fst i default)) false (some []) [], Row.mk (some 72) none (AV.bool (bif bif (faultR z g1.l i1.l).fst == 3 then (faultR z g1.l i1.l).snd.fst == 2 else false then decide ((bestR z g1.l).1 = i3.l) else false)) false (some []) [], Row.mk (some 71) none (AV.bool (bif bif (faultR z g1.l i1.l).fst == 3 then (faultR z g1.l i1.l).snd.fst == 2 else false then decide ((bestR z g1.l).1 = i3.l) else false)) false (some []) [], Row.mk (some 70) (some (6, true)) (AV.bool (decide ((bestR z g1.l).1 = i3.l))) false (some []) [], Row.mk (some 69) (some (6, true)) (encI i3) true (some []) [], Row.mk (some 68) (some (6, true)) (fz Fz.auto 1 (List.length (bestR z g1.l).fst) fun (i x : Nat) => int i64 (List.getD (bestR z g1.l).fst i 0)) false (some []) [], Row.mk (some 67) none (AV.bool (bif (faultR z g1.l i1.l).fst == 3 then (faultR z g1.l i1.l).snd.fst == 2 else false)) false (some []) [], Row.mk (some 66) none (AV.bool (bif (faultR z g1.l i1.l).fst == 3 then (faultR z g1.l i1.l).snd.fst == 2 else false)) false (some []) [], Row.mk (some 65) (some (2, true)) (AV.bool ((faultR z g1.l i1.l).snd.fst == 2)) false (some []) [], Row.mk (some 64) (some (2, true)) (int i64 (faultR z g1.l i1.l).snd.fst) false (some []) [], Row.mk (some 63) none (AV.bool ((faultR z g1.l i1.l).fst == 3)) false (some []) [], Row.mk (some 62) none (AV.bool ((faultR z g1.l i1.l).fst == 3)) false (some []) [], Row.mk (some 61) none (int i64 (faultR z g1.l i1.l).fst) false (some []) []] [(1, int i64 (faultR z g1.l i1.l).fst), (2, int i64 (faultR z g1.l i1.l).snd.fst), (4, fz Fz.auto 1 (List.length (bestR z g1.l).fst) fun (i x : Nat) => int i64 (List.getD (bestR z g1.l).fst i 0)), (6, fz Fz.may 4 (List.length (coreR z g2.l).fst) fun (i : Nat) => clC (List.getD (coreR z g2.l).fst i default)), (8, fz Fz.auto 1 (List.length (nearR z g1.l i2.l).fst) fun (i x : Nat) => int i64 (List.getD (nearR z g1.l i2.l).fst i 0)), (9, int i64 (nearR z g1.l i2.l).snd.fst), (60, AV.bool (bif bif bif (faultR z g1.l i1.l).snd.snd != 0 then true else (bestR z g1.l).snd != 0 then true else (coreR z g2.l).snd != 0 then true else (nearR z g1.l i2.l).snd.snd != 0))] [(11, true)]) [] g (encC k1) [] g) ∧ ((bif bif (faultR z g1.l i1.l).fst == 3 then (faultR z g1.l i1.l).snd.fst == 2 else false then decide ((bestR z g1.l).1 = i3.l) else false) = true → ∀ (hp : List AObj) (g : R.σ), true = true ∧ Does Try.prog R 21 [fz Fz.may 4 (List.length (coreR z g2.l).fst) fun (i : Nat) => clC (List.getD (coreR z g2.l).fst i default), encC k1] hp g (ret (AV.bool (decide ((coreR z g2.l).1 = k1.l)))) hp g) ∧ ((bif bif bif (faultR z g1.l i1.l).fst == 3 then (faultR z g1.l i1.l).snd.fst == 2 else false then decide ((bestR z g1.l).1 = i3.l) else false then decide ((coreR z g2.l).1 = k1.l) else false) = true → OpOk Try.prog R (Oper.mk (some 83) (Op.buildSlice 26 3 #[(0, Operand.const (Value.int i64 1)), (1, Operand.const (Value.int i64 1)), (2, Operand.const (Value.int i64 0))]) 26 "law.go:41" #[Edge.mk 20 Ground.guard] (some (20, true))) (evO [Row.mk (some 82) (some (20, true)) (fz Fz.auto 1 (List.length (nearR z g1.l i2.l).fst) fun (i x : Nat) => int i64 (List.getD (nearR z g1.l i2.l).fst i 0)) false (some []) [], Row.mk (some 81) none (AV.bool (bif bif bif (faultR z g1.l i1.l).fst == 3 then (faultR z g1.l i1.l).snd.fst == 2 else false then decide ((bestR z g1.l).1 = i3.l) else false then decide ((coreR z g2.l).1 = k1.l) else false)) false (some []) [], Row.mk (some 80) none (AV.bool (bif bif bif (faultR z g1.l i1.l).fst == 3 then (faultR z g1.l i1.l).snd.fst == 2 else false then decide ((bestR z g1.l).1 = i3.l) else false then decide ((coreR z g2.l).1 = k1.l) else false)) false (some []) [], Row.mk (some 79) (some (11, true)) (AV.bool (decide ((coreR z g2.l).1 = k1.l))) false (some []) [], Row.mk (some 78) (some (11, true)) (encC k1) true (some []) [], Row.mk (some 77) (some (11, true)) (agg 4 (nth [int i64 2, int i64 1, AV.bool true, int i64 0])) false (some []) [], Row.mk (some 76) (some (11, true)) (agg 4 (nth [int i64 1, int i64 2, AV.bool false, int i64 0])) false (some []) [], Row.mk (some 75) (some (11, true)) (agg 4 (nth [int i64 0, int i64 2, AV.bool false, int i64 0])) false (some []) [], Row.mk (some 74) (some (11, true)) (agg 4 (nth [int i64 (-1), int i64 0, AV.bool false, int i64 0])) false (some []) [], Row.mk (some 73) (some (11, true)) (fz Fz.may 4 (List.length (coreR z g2.l).fst) fun (i : Nat) => clC (List.getD (coreR z g2.l).fst i default)) false (some []) [], Row.mk (some 72) none (AV.bool (bif bif (faultR z g1.l i1.l).fst == 3 then (faultR z g1.l i1.l).snd.fst == 2 else false then decide ((bestR z g1.l).1 = i3.l) else false)) false (some []) [], Row.mk (some 71) none (AV.bool (bif bif (faultR z g1.l i1.l).fst == 3 then (faultR z g1.l i1.l).snd.fst == 2 else false then decide ((bestR z g1.l).1 = i3.l) else false)) false (some []) [], Row.mk (some 70) (some (6, true)) (AV.bool (decide ((bestR z g1.l).1 = i3.l))) false (some []) [], Row.mk (some 69) (some (6, true)) (encI i3) true (some []) [], Row.mk (some 68) (some (6, true)) (fz Fz.auto 1 (List.length (bestR z g1.l).fst) fun (i x : Nat) => int i64 (List.getD (bestR z g1.l).fst i 0)) false (some []) [], Row.mk (some 67) none (AV.bool (bif (faultR z g1.l i1.l).fst == 3 then (faultR z g1.l i1.l).snd.fst == 2 else false)) false (some []) [], Row.mk (some 66) none (AV.bool (bif (faultR z g1.l i1.l).fst == 3 then (faultR z g1.l i1.l).snd.fst == 2 else false)) false (some []) [], Row.mk (some 65) (some (2, true)) (AV.bool ((faultR z g1.l i1.l).snd.fst == 2)) false (some []) [], Row.mk (some 64) (some (2, true)) (int i64 (faultR z g1.l i1.l).snd.fst) false (some []) [], Row.mk (some 63) none (AV.bool ((faultR z g1.l i1.l).fst == 3)) false (some []) [], Row.mk (some 62) none (AV.bool ((faultR z g1.l i1.l).fst == 3)) false (some []) [], Row.mk (some 61) none (int i64 (faultR z g1.l i1.l).fst) false (some []) []] [(1, int i64 (faultR z g1.l i1.l).fst), (2, int i64 (faultR z g1.l i1.l).snd.fst), (4, fz Fz.auto 1 (List.length (bestR z g1.l).fst) fun (i x : Nat) => int i64 (List.getD (bestR z g1.l).fst i 0)), (6, fz Fz.may 4 (List.length (coreR z g2.l).fst) fun (i : Nat) => clC (List.getD (coreR z g2.l).fst i default)), (8, fz Fz.auto 1 (List.length (nearR z g1.l i2.l).fst) fun (i x : Nat) => int i64 (List.getD (nearR z g1.l i2.l).fst i 0)), (9, int i64 (nearR z g1.l i2.l).snd.fst), (60, AV.bool (bif bif bif (faultR z g1.l i1.l).snd.snd != 0 then true else (bestR z g1.l).snd != 0 then true else (coreR z g2.l).snd != 0 then true else (nearR z g1.l i2.l).snd.snd != 0))] [(20, true)]) [] g (encI i3) [] g) ∧ ((bif bif bif (faultR z g1.l i1.l).fst == 3 then (faultR z g1.l i1.l).snd.fst == 2 else false then decide ((bestR z g1.l).1 = i3.l) else false then decide ((coreR z g2.l).1 = k1.l) else false) = true → ∀ (hp : List AObj) (g : R.σ), true = true ∧ Does Try.prog R 18 [fz Fz.auto 1 (List.length (nearR z g1.l i2.l).fst) fun (i x : Nat) => int i64 (List.getD (nearR z g1.l i2.l).fst i 0), encI i3] hp g (ret (AV.bool (decide ((nearR z g1.l i2.l).1 = i3.l)))) hp g) ∧ Q AEx.ret (St.mk [(0, AV.bool (bif bif bif bif bif (faultR z g1.l i1.l).fst == 3 then (faultR z g1.l i1.l).snd.fst == 2 else false then decide ((bestR z g1.l).1 = i3.l) else false then decide ((coreR z g2.l).1 = k1.l) else false then decide ((nearR z g1.l i2.l).1 = i3.l) else false then (nearR z g1.l i2.l).snd.fst == 1 else false))] [] g))) (fun _ => by kernel_rfl) ⟨?_, ⟨(fun _ _ => ⟨rfl, (Go.Avm.Pack.c_span _ _ _ _ _ _)⟩), ⟨?_, ⟨(fun _ _ => ⟨rfl, (Go.Avm.Pack.c_goals _ _ _ _)⟩), ⟨?_, ⟨(fun _ _ => ⟨rfl, (Go.Avm.Pack.c_Fault _ _ _ _ _ _ (by omega) (by omega))⟩), ⟨?_, ⟨(fun _ _ => ⟨rfl, (Go.Avm.Pack.c_span _ _ _ _ _ _)⟩), ⟨?_, ⟨(fun _ _ => ⟨rfl, (Go.Avm.Pack.c_goals _ _ _ _)⟩), ⟨(fun _ _ => ⟨rfl, (Go.Avm.Pack.c_Best _ _ _ _ _ (by omega) (by omega))⟩), ⟨?_, ⟨(fun _ _ => ⟨rfl, (Go.Avm.Pack.c_span _ _ _ _ _ _)⟩), ⟨?_, ⟨(fun _ _ => ⟨rfl, (Go.Avm.Pack.c_goals _ _ _ _)⟩), ⟨(fun _ _ => ⟨rfl, (Go.Avm.Pack.c_Core _ _ _ _ _ (by omega) (by omega))⟩), ⟨?_, ⟨(fun _ _ => ⟨rfl, (Go.Avm.Pack.c_span _ _ _ _ _ _)⟩), ⟨?_, ⟨(fun _ _ => ⟨rfl, (Go.Avm.Pack.c_goals _ _ _ _)⟩), ⟨?_, ⟨(fun _ _ => ⟨rfl, (Go.Avm.Pack.c_Closest _ _ _ _ _ _ (by omega) (by omega))⟩), ⟨fun c1 => have c1 : ((¬(faultR z g1.l i1.l).snd.snd = 0 ∨ ¬(bestR z g1.l).snd = 0) ∨ ¬(coreR z g2.l).snd = 0) ∨ ¬(nearR z g1.l i2.l).snd.snd = 0 := ((cO_t c1).imp (fun h => ((cO_t h).imp (fun h => ((cO_t h).imp (fun h => (bne_iff_ne.mp h)) (fun h => (bne_iff_ne.mp h)))) (fun h => (bne_iff_ne.mp h)))) (fun h => (bne_iff_ne.mp h))); ?_, fun c1 => have c1 : (((faultR z g1.l i1.l).snd.snd = 0 ∧ (bestR z g1.l).snd = 0) ∧ (coreR z g2.l).snd = 0) ∧ (nearR z g1.l i2.l).snd.snd = 0 := ⟨⟨⟨(bne_eq_false_iff_eq.mp (cO_f (cO_f (cO_f c1).1).1).1), (bne_eq_false_iff_eq.mp (cO_f (cO_f (cO_f c1).1).1).2)⟩, (bne_eq_false_iff_eq.mp (cO_f (cO_f c1).1).2)⟩, (bne_eq_false_iff_eq.mp (cO_f c1).2)⟩; ⟨?_, ⟨(fun hgd => (fun _ _ => ⟨rfl, (Go.Avm.Pack.c_SameInts _ (KL.mk (bestR z g1.l).1 Fz.auto) _ _ _ (by omega))⟩)), ⟨?_, ⟨(fun hgd => (fun _ _ => ⟨rfl, (Go.Avm.Pack.c_SameClauses _ (KL.mk (coreR z g2.l).1 Fz.may) _ _ _ (by omega))⟩)), ⟨?_, ⟨(fun hgd => (fun _ _ => ⟨rfl, (Go.Avm.Pack.c_SameInts _ (KL.mk (nearR z g1.l i2.l).1 Fz.auto) _ _ _ (by omega))⟩)), ?_⟩⟩⟩⟩⟩⟩⟩⟩⟩⟩⟩⟩⟩⟩⟩⟩⟩⟩⟩⟩⟩⟩⟩⟩⟩⟩⟩⟩⟩
  · intro hp g; subst hz; exact ⟨rfl, c_A R hp g⟩
  · subst hg1; exact opOk_litB (n := 1) (es := 3) (by kernel_rfl) (by exact ⟨⟨⟨⟨trivial, trivial⟩, trivial⟩, trivial⟩, trivial⟩) rfl rfl (fun i hi j hj => match i, hi, j, hj with | 0, _, 0, _ => (by kernel_rfl) | 0, _, 1, _ => (by kernel_rfl) | 0, _, 2, _ => (by kernel_rfl) ) (fun i hi j hj => match i, hi, j, hj with | 0, _, 0, _ => trivial | 0, _, 1, _ => trivial | 0, _, 2, _ => trivial )
  · subst hi1; exact opOk_litB (n := 3) (es := 1) (by kernel_rfl) (by exact ⟨trivial, ⟨trivial, ⟨trivial, trivial⟩⟩⟩) rfl rfl (fun i hi j hj => match i, hi, j, hj with | 0, _, 0, _ => (by kernel_rfl) | 1, _, 0, _ => (by kernel_rfl) | 2, _, 0, _ => (by kernel_rfl) ) (fun i hi j hj => match i, hi, j, hj with | 0, _, 0, _ => trivial | 1, _, 0, _ => trivial | 2, _, 0, _ => trivial )
  · intro hp g; subst hz; exact ⟨rfl, c_A R hp g⟩
  · subst hg1; exact opOk_litB (n := 1) (es := 3) (by kernel_rfl) (by exact ⟨⟨⟨⟨trivial, trivial⟩, trivial⟩, trivial⟩, trivial⟩) rfl rfl (fun i hi j hj => match i, hi, j, hj with | 0, _, 0, _ => (by kernel_rfl) | 0, _, 1, _ => (by kernel_rfl) | 0, _, 2, _ => (by kernel_rfl) ) (fun i hi j hj => match i, hi, j, hj with | 0, _, 0, _ => trivial | 0, _, 1, _ => trivial | 0, _, 2, _ => trivial )
  · intro hp g; subst hz; exact ⟨rfl, c_A R hp g⟩
  · subst hg2; exact opOk_litB (n := 1) (es := 3) (by kernel_rfl) (by exact ⟨⟨⟨⟨trivial, trivial⟩, trivial⟩, trivial⟩, trivial⟩) rfl rfl (fun i hi j hj => match i, hi, j, hj with | 0, _, 0, _ => (by kernel_rfl) | 0, _, 1, _ => (by kernel_rfl) | 0, _, 2, _ => (by kernel_rfl) ) (fun i hi j hj => match i, hi, j, hj with | 0, _, 0, _ => trivial | 0, _, 1, _ => trivial | 0, _, 2, _ => trivial )
  · intro hp g; subst hz; exact ⟨rfl, c_A R hp g⟩
  · subst hg1; exact opOk_litB (n := 1) (es := 3) (by kernel_rfl) (by exact ⟨⟨⟨⟨trivial, trivial⟩, trivial⟩, trivial⟩, trivial⟩) rfl rfl (fun i hi j hj => match i, hi, j, hj with | 0, _, 0, _ => (by kernel_rfl) | 0, _, 1, _ => (by kernel_rfl) | 0, _, 2, _ => (by kernel_rfl) ) (fun i hi j hj => match i, hi, j, hj with | 0, _, 0, _ => trivial | 0, _, 1, _ => trivial | 0, _, 2, _ => trivial )
  · subst hi2; exact opOk_litB (n := 3) (es := 1) (by kernel_rfl) (by exact ⟨trivial, ⟨trivial, ⟨trivial, trivial⟩⟩⟩) rfl rfl (fun i hi j hj => match i, hi, j, hj with | 0, _, 0, _ => (by kernel_rfl) | 1, _, 0, _ => (by kernel_rfl) | 2, _, 0, _ => (by kernel_rfl) ) (fun i hi j hj => match i, hi, j, hj with | 0, _, 0, _ => trivial | 1, _, 0, _ => trivial | 2, _, 0, _ => trivial )
  · rw [f1, f2, f3, f4] at c1
    simp at c1
  · intro _; subst hi3; exact opOk_litB (n := 3) (es := 1) (by kernel_rfl) (by exact ⟨trivial, ⟨trivial, ⟨trivial, trivial⟩⟩⟩) rfl rfl (fun i hi j hj => match i, hi, j, hj with | 0, _, 0, _ => (by kernel_rfl) | 1, _, 0, _ => (by kernel_rfl) | 2, _, 0, _ => (by kernel_rfl) ) (fun i hi j hj => match i, hi, j, hj with | 0, _, 0, _ => trivial | 1, _, 0, _ => trivial | 2, _, 0, _ => trivial )
  · intro _; subst hk1; exact opOk_litB (n := 4) (es := 4) (by kernel_rfl) (by exact ⟨⟨⟨⟨⟨trivial, trivial⟩, trivial⟩, trivial⟩, trivial⟩, ⟨⟨⟨⟨⟨trivial, trivial⟩, trivial⟩, trivial⟩, trivial⟩, ⟨⟨⟨⟨⟨trivial, trivial⟩, trivial⟩, trivial⟩, trivial⟩, ⟨⟨⟨⟨⟨trivial, trivial⟩, trivial⟩, trivial⟩, trivial⟩, trivial⟩⟩⟩⟩) rfl rfl (fun i hi j hj => match i, hi, j, hj with | 0, _, 0, _ => (by kernel_rfl) | 0, _, 1, _ => (by kernel_rfl) | 0, _, 2, _ => (by kernel_rfl) | 0, _, 3, _ => (by kernel_rfl) | 1, _, 0, _ => (by kernel_rfl) | 1, _, 1, _ => (by kernel_rfl) | 1, _, 2, _ => (by kernel_rfl) | 1, _, 3, _ => (by kernel_rfl) | 2, _, 0, _ => (by kernel_rfl) | 2, _, 1, _ => (by kernel_rfl) | 2, _, 2, _ => (by kernel_rfl) | 2, _, 3, _ => (by kernel_rfl) | 3, _, 0, _ => (by kernel_rfl) | 3, _, 1, _ => (by kernel_rfl) | 3, _, 2, _ => (by kernel_rfl) | 3, _, 3, _ => (by kernel_rfl) ) (fun i hi j hj => match i, hi, j, hj with | 0, _, 0, _ => trivial | 0, _, 1, _ => trivial | 0, _, 2, _ => trivial | 0, _, 3, _ => trivial | 1, _, 0, _ => trivial | 1, _, 1, _ => trivial | 1, _, 2, _ => trivial | 1, _, 3, _ => trivial | 2, _, 0, _ => trivial | 2, _, 1, _ => trivial | 2, _, 2, _ => trivial | 2, _, 3, _ => trivial | 3, _, 0, _ => trivial | 3, _, 1, _ => trivial | 3, _, 2, _ => trivial | 3, _, 3, _ => trivial )
  · intro _; subst hi3; exact opOk_litB (n := 3) (es := 1) (by kernel_rfl) (by exact ⟨trivial, ⟨trivial, ⟨trivial, trivial⟩⟩⟩) rfl rfl (fun i hi j hj => match i, hi, j, hj with | 0, _, 0, _ => (by kernel_rfl) | 1, _, 0, _ => (by kernel_rfl) | 2, _, 0, _ => (by kernel_rfl) ) (fun i hi j hj => match i, hi, j, hj with | 0, _, 0, _ => trivial | 1, _, 0, _ => trivial | 2, _, 0, _ => trivial )
  · refine (retQ_le (retQ_same' _ _ rfl trivial rfl rfl rfl) (Le.of_eq ?_))
    show (AV.bool (bif bif bif bif bif (faultR z g1.l i1.l).fst == 3 then (faultR z g1.l i1.l).snd.fst == 2 else false then decide ((bestR z g1.l).fst = i3.l) else false then decide ((coreR z g2.l).fst = k1.l) else false then decide ((nearR z g1.l i2.l).fst = i3.l) else false then (nearR z g1.l i2.l).snd.fst == 1 else false)) = _
    rw [f1, f2, f3, f4, hi3, hk1]
    rfl
end Go.Avm.Pack
namespace Go.Avm.Pack
open Go Go.Avm Go.Proofs
open Go.IntKind (i64 u64)
open Go.Avm.AV (int bool any fz fp sl ow ref fn ifc val agg tup)
open Go.Avm.AObj (cells dead)
open Go.Avm.Oc (ret)
set_option maxRecDepth 4000
theorem small_of {x : Ix} {most : Nat} (h : smallB x most = true) : small x ∧ smallR x := by
  have h := smallB_iff.1 h
  have hd : ∀ i, x.l.length ≤ i → x.l.getD i default = default := fun i hi => by simp [List.getD, List.getElem?_eq_none hi]
  refine ⟨⟨by omega, fun i => ?_⟩, fun i k => ?_⟩
  · rcases Nat.lt_or_ge i x.l.length with hi | hi
    · have := (h.2 i hi).1; omega
    · rw [hd i hi]; exact (by decide : (default : KL Rel).l.length < 1000000)
  · rcases Nat.lt_or_ge i x.l.length with hi | hi
    · rcases Nat.lt_or_ge k (x.l.getD i default).l.length with hk | hk
      · have := (h.2 i hi).2 k hk; omega
      · have : (x.l.getD i default).l.getD k default = default := by rw [List.getD_eq_getElem?_getD, List.getElem?_eq_none hk]; rfl
        rw [this]; decide
    · rw [hd i hi]
      have : (default : KL Rel).l.getD k default = default := by rfl
      rw [this]; decide
end Go.Avm.Pack
namespace Go.Avm.Pack
open Go Go.Avm Go.Proofs
open Go.IntKind (i64 u64)
open Go.Avm.AV (int bool any fz fp sl ow ref fn ifc val agg tup)
open Go.Avm.AObj (cells dead)
open Go.Avm.Oc (ret)
set_option maxRecDepth 4000

theorem rea_rng : Rea Try.prog 72 3 (fun _ : Rng => True) rngC :=
  Rea.map (rd_struct Try.underlying72 (by kernel_rfl) (rdF_cons rfl (by kernel_rfl) (rd_int Try.underlying3) (rdF_cons rfl (by kernel_rfl) (rd_int Try.underlying3) (rdF_cons rfl (by kernel_rfl) (rd_int Try.underlying3) rdF_nil))))
    (fun x : Int × Int × Int × Unit => ⟨x.1, x.2.1, x.2.2.1⟩) (fun _ _ => trivial) (fun x j hj => match j, hj with | 0, _ => rfl | 1, _ => rfl | 2, _ => rfl)
def klOf {α : Type} (x : Fz × List α) : KL α := ⟨x.2, x.1⟩
theorem rea_rngs : Rea Try.prog 25 1 (fun _ : KL Rng => True) (fun x _ => encR x) :=
  Rea.map (rd_slice Try.underlying25 (by kernel_rfl) (by omega) rea_rng) klOf (fun _ _ => trivial) (fun x j hj => rfl)
theorem rea_rel : Rea Try.prog 68 2 (fun _ : Rel => True) relC := by
  have h := rd_struct (n := 2) Try.underlying68 (by kernel_rfl) (rdF_cons rfl (m := 1) (by kernel_rfl) rea_rngs (rdF_cons rfl (m := 1) (by kernel_rfl) rea_rngs rdF_nil))
  exact h.map (fun x => ⟨x.1, x.2.1⟩) (fun _ _ => trivial) (fun x j hj => match j, hj with | 0, _ => rfl | 1, _ => rfl)
theorem rea_rels : Rea Try.prog 66 1 (fun _ : KL Rel => True) (fun x _ => encRels x) :=
  Rea.map (rd_slice Try.underlying66 (by kernel_rfl) (by omega) rea_rel) klOf (fun _ _ => trivial) (fun x j hj => rfl)
theorem rea_packs : Rea Try.prog 22 1 (fun _ : Ix => True) (fun x _ => encPacks x) :=
  Rea.map (rd_slice Try.underlying22 (by kernel_rfl) (by omega) rea_rels) klOf (fun _ _ => trivial) (fun x j hj => rfl)
theorem rea_ix : Rea Try.prog 24 1 (fun _ : Ix => True) (fun x => nth [encPacks x]) := by
  have h := rd_struct (n := 1) Try.underlying24 (by kernel_rfl) (rdF_cons rfl (m := 1) (by kernel_rfl) rea_packs rdF_nil)
  exact h.map (fun x => x.1) (fun _ _ => trivial) (fun x j hj => match j, hj with | 0, _ => rfl)
theorem arg_ix : Arg Try.prog 24 (fun _ : Ix => True) encIx := arg_struct Try.underlying24 rea_ix
theorem arg_rngs : Arg Try.prog 25 (fun _ : KL Rng => True) encR := arg_slice Try.underlying25 rea_rngs
end Go.Avm.Pack
namespace Go.Avm.Pack
open Go Go.Avm Go.Proofs
open Go.IntKind (i64 u64)
open Go.Avm.AV (int bool any fz fp sl ow ref fn ifc val agg tup)
open Go.Avm.AObj (cells dead)
open Go.Avm.Oc (ret)
set_option maxRecDepth 4000
theorem bestR_eq {x : Ix} {gl : List Rng} (hck : checkB x gl = true) : bestR x gl = rbestR x gl := by
  unfold bestR rbestR
  rw [hck, best_eq (check_parts hck).1 (check_goals hck)]
  rfl
end Go.Avm.Pack
namespace Go.Avm.Pack
open Go Go.Avm Go.Proofs
open Go.IntKind (i64 u64)
open Go.Avm.AV (int bool any fz fp sl ow ref fn ifc val agg tup)
open Go.Avm.AObj (cells dead)
open Go.Avm.Oc (ret)
set_option maxRecDepth 4000

def upC (k : Nat) : Int := (k : Int) - 1
def chosenR {β : Type} (x : Ix) (f : β → List Int → Bool × β) : Nat → β → List Int → Bool × β
  | 0, b, pl => f b pl
  | k + 1, b, pl => goN (fun b v => chosenR x f k b (pl ++ [v])) upC ((x.l.getD (x.l.length - (k + 1)) default).l.length + 1) b
def inL (x : Ix) (pl : List Int) : Prop := ∀ i, i < pl.length → -1 ≤ pl.getD i 0 ∧ pl.getD i 0 < ((x.l.getD i default).l.length : Int)
theorem inL_snoc {x : Ix} {pl : List Int} {m : Nat} {v : Int} (h : inL x pl) (hm : pl.length = m) (h1 : -1 ≤ v) (h2 : v < ((x.l.getD m default).l.length : Int)) : inL x (pl ++ [v]) := by
  intro i hi
  simp at hi
  by_cases he : i < pl.length
  · have := h i he
    rwa [show (pl ++ [v]).getD i 0 = pl.getD i 0 by simp [List.getD, List.getElem?_append_left he]]
  · have : i = m := by omega
    subst this
    rw [show (pl ++ [v]).getD i 0 = v by rw [← hm]; simp [List.getD]]
    exact ⟨h1, h2⟩
theorem upC_in {n k : Nat} (h : k < n + 1) : -1 ≤ upC k ∧ upC k < (n : Int) := ⟨by show (-1 : Int) ≤ (k : Int) - 1; omega, by show (k : Int) - 1 < (n : Int); omega⟩
theorem chosenR_I {β : Type} {x : Ix} {I : β → Prop} {f : β → List Int → Bool × β} (fI : ∀ b pl, I b → pl.length = x.l.length → inL x pl → I (f b pl).2) : ∀ (n : Nat) (b : β) (pl : List Int), I b → pl.length + n = x.l.length → inL x pl → I (chosenR x f n b pl).2
  | 0, b, pl, hb, hn, hp => fI b pl hb (by omega) hp
  | n + 1, b, pl, hb, hn, hp => by
    unfold chosenR
    refine bK_I hb (fun b k hb' hk => ?_) _ stopF_le
    have := upC_in hk
    exact chosenR_I fI n b _ hb' (by simp; omega) (inL_snoc hp (by omega) this.1 this.2)
theorem ints_app {pl s : List Int} {n : Nat} (hn : n = (pl ++ s).length) : Le (.fz .may 1 n (fun i j => plainJ 1 (pl.length - 0) (fun i _ => .int .i64 (pl.getD (0 + i) 0)) (fun i _ => .int .i64 (s.getD i 0)) (i * 1 + j))) (encI ⟨pl ++ s, .may⟩) := by
  subst hn
  refine leK_ok (by show leK .may .may _ = true; cases (pl ++ s).length <;> rfl) (fun i j hi hj => ?_)
  have hj : j = 0 := by omega
  subst hj
  show plainJ 1 (pl.length - 0) _ _ (i * 1 + 0) = AV.int .i64 ((pl ++ s).getD i 0)
  unfold plainJ
  by_cases h : i < pl.length
  · rw [if_pos (by omega), show (i * 1 + 0) / 1 = i by omega]
    simp [List.getD, List.getElem?_append_left h]
  · rw [if_neg (by omega), show (i * 1 + 0 - (pl.length - 0) * 1) / 1 = i - pl.length by omega]
    simp [List.getD, List.getElem?_append_right (show pl.length ≤ i by omega)]
structure ChosenH {β : Type} (x : Ix) (R : Res) (G : β → R.σ) (I : β → Prop) (f : β → List Int → Bool × β) (u : Value) : Prop where
  h : ∀ b pl, I b → pl.length = x.l.length → inL x pl → ∀ hpo, VDoes Try.prog R u [encI ⟨pl, .may⟩] hpo (G b) (.ret (.bool (f b pl).1)) hpo (G (f b pl).2)
  fI : ∀ b pl, I b → pl.length = x.l.length → inL x pl → I (f b pl).2
theorem ChosenH.lift {β : Type} {x : Ix} {R : Res} {G : β → R.σ} {I : β → Prop} {f : β → List Int → Bool × β} {u : Value} (h : ChosenH x R G I f u) (FM : Mem) (ρ ρ1 : Plc) (q : List AObj) :
    ChosenH x (absorbS R FM ρ ρ1) (fun b => (G b, q)) I f u :=
  ⟨fun b pl h1 h2 h3 hpo => vdoes_liftS (args := [encI ⟨pl, .may⟩]) ⟨trivial, trivial⟩ (show ocBelow (.ret (.bool _)) from trivial) (h.h b pl h1 h2 h3 []) hpo, h.fI⟩
theorem chosen_zero {β : Type} (x : Ix) (R : Res) (G : β → R.σ) (I : β → Prop) (f : β → List Int → Bool × β) (u : Value) (hE : ChosenH x R G I f u) (b : β) (pl : List Int) (hb : I b) (hpl : pl.length = x.l.length) (hin : inL x pl) :
    Does Try.prog R 25 [encIx x, encI ⟨pl, .may⟩, .val u] [] (G b) (.ret (.bool (chosenR x f 0 b pl).1)) [] (G (chosenR x f 0 b pl).2) := by
  have hfp := hE.h b pl hb hpl hin
  have hq : ((pl.length : Int) == (x.l.length : Int)) = true := by rw [hpl]; simp
  show Does Try.prog R 25 [encIx x, encI ⟨pl, .may⟩, .val u] [] (G b) (.ret (.bool (f b pl).1)) [] (G (f b pl).2)
  refine spec_of_wp (nt := 41) (rs := [.tmp 6]) (k0 := 0) (by kernel_rfl) (by kernel_rfl) (by kernel_rfl) rfl ?_
  refine vcQ [] (lkL [(0, [1, 2, 3]), (1, [1, 2, 3, 13]), (2, [6]), (3, [1, 2, 3, 7])]) (lkL [(2, [(2, ROrc.gcall (AV.bool (f b pl).fst) (G (f b pl).snd))])]) (fun (Q : AEx → St R.σ → Prop) => 1 ≤ 1 ∧ (((↑(List.length pl) : Int) == (↑(List.length x.l) : Int)) = true → VDoes Try.prog R u [fz Fz.may 1 (List.length pl) fun (i x : Nat) => int i64 (List.getD pl i 0)] [cells false 1 (nth [encPacks x])] (G b) (ret (AV.bool (f b pl).fst)) [cells false 1 (nth [encPacks x])] (G (f b pl).snd) ∧ Q AEx.ret (St.mk [(6, AV.bool (f b pl).fst)] [cells false 1 (nth [encPacks x])] (G (f b pl).snd))) ∧ (((↑(List.length pl) : Int) == (↑(List.length x.l) : Int)) = false → Wp Try.prog R 41 0 Rd.top (bodyOf Try.prog 25) [1, 1, 0, 1, 0] (contQ Try.prog R 41 0 Rd.top (bodyOf Try.prog 25) Q [Kont.blk 0, Kont.seq [1, 1, 1]]) (St.mk [(1, fz Fz.may 1 (List.length pl) fun (i x : Nat) => int i64 (List.getD pl i 0)), (2, val u), (3, ref 0 0), (7, int i64 (-1))] [cells false 1 (nth [encPacks x])] (G b)))) (fun _ => by kernel_rfl) ⟨(by omega), ⟨fun _ => ⟨(hfp _), ?_⟩, fun hcc => (nomatch (hq.symm.trans hcc))⟩⟩
  refine (retQ_le (retQ_drop _ _ rfl trivial trivial rfl) (Le.refl _))
theorem chosen_succ {β : Type} (x : Ix) (h8 : x.l.length ≤ 8) (h5 : ∀ i, i < x.l.length → (x.l.getD i default).l.length ≤ 5) (I : β → Prop) (f : β → List Int → Bool × β) (u : Value) (n m : Nat) (hm : m + (n + 1) = x.l.length)
    (ih : ∀ (R : Res) (G : β → R.σ), ChosenH x R G I f u → ∀ b pl, I b → pl.length = m + 1 → inL x pl → Does Try.prog R 25 [encIx x, encI ⟨pl, .may⟩, .val u] [] (G b) (.ret (.bool (chosenR x f n b pl).1)) [] (G (chosenR x f n b pl).2))
    (R : Res) (G : β → R.σ) (hE : ChosenH x R G I f u) (b : β) (pl : List Int) (hb : I b) (hpl : pl.length = m) (hin : inL x pl) :
    Does Try.prog R 25 [encIx x, encI ⟨pl, .may⟩, .val u] [] (G b) (.ret (.bool (chosenR x f (n + 1) b pl).1)) [] (G (chosenR x f (n + 1) b pl).2) := by
  have em : x.l.length - (n + 1) = m := by omega
  have h5' := h5 m (by omega)
  obtain ⟨F, hF⟩ : ∃ F : β → Int → Bool × β, F = fun b v => chosenR x f n b (pl ++ [v]) := ⟨_, rfl⟩
  obtain ⟨N, hN⟩ : ∃ N, (x.l.getD m default).l.length = N := ⟨_, rfl⟩
  have e : chosenR x f (n + 1) b pl = goN F upC (N + 1) b := by unfold chosenR; rw [em, hN, hF]
  have hIK : ∀ k, k ≤ N + 1 → I (bK F upC b k) := bK_I hb (fun b k hb' hk => by
    have := upC_in hk
    rw [hF]
    exact chosenR_I hE.fI n b _ hb' (by simp; omega) (inL_snoc hin hpl this.1 (by rw [hN]; exact this.2)))
  rw [e]
  have hne : ((pl.length : Int) == (x.l.length : Int)) = false := by rw [beq_eq_false_iff_ne]; omega
  refine spec_of_wp (nt := 41) (rs := [.tmp 6]) (k0 := 0) (by kernel_rfl) (by kernel_rfl) (by kernel_rfl) rfl ?_
  refine vcQ [] (lkL [(0, [1, 2, 3]), (1, [1, 2, 3, 13]), (2, [6]), (3, [1, 2, 3, 7])]) (fun _ => []) (fun (Q : AEx → St R.σ → Prop) => 1 ≤ 1 ∧ (((↑(List.length pl) : Int) == (↑(List.length x.l) : Int)) = true → False) ∧ (((↑(List.length pl) : Int) == (↑(List.length x.l) : Int)) = false → Wp Try.prog R 41 0 Rd.top (bodyOf Try.prog 25) [1, 1, 0, 1, 0] (contQ Try.prog R 41 0 Rd.top (bodyOf Try.prog 25) Q [Kont.blk 0, Kont.seq [1, 1, 1]]) (St.mk [(1, fz Fz.may 1 (List.length pl) fun (i x : Nat) => int i64 (List.getD pl i 0)), (2, val u), (3, ref 0 0), (7, int i64 (-1))] [cells false 1 (nth [encPacks x])] (G b)))) (fun _ => by kernel_rfl) ⟨(by omega), ⟨fun hcc => (nomatch (hne.symm.trans hcc)), fun _ => ?_⟩⟩
  refine (wp_loop (by kernel_rfl) (fun (k : Nat) => ⟨[(1, fz Fz.may 1 (List.length pl) fun (i x : Nat) => int i64 (List.getD pl i 0)), (2, val u), (3, ref 0 0), (7, .int .i64 (upC k))], [cells false 1 (nth [encPacks x])], (G (bK F upC b k))⟩) (fun (k : Nat) => (k ≤ N + 1 ∧ ∀ j, j < k → cK F upC b j = true)) (fun (k : Nat) => (N + 1 - k)) 0 (to_fr ⟨(Le.refl _), ⟨(Le.refl _), ⟨(Le.refl _), ⟨(Le.of_eq (by kernel_rfl)), trivial⟩⟩⟩⟩ rfl rfl) ?_ (fun k hi => ?_))
  · exact ⟨Nat.zero_le _, fun j hj => absurd hj (by omega)⟩
  · obtain ⟨h1, h2⟩ := hi
    have hu : upC k = (k : Int) - 1 := rfl
    by_cases hk : k < N + 1
    · have hin' := upC_in hk
      have i1 := hIK k h1
      have i2 := inL_snoc hin hpl hin'.1 (by rw [hN]; exact hin'.2)
      have i3 : (pl ++ [upC k]).length = m + 1 := by simp; omega
      have e1 : cK F upC b k = (chosenR x f n (bK F upC b k) (pl ++ [upC k])).1 := by unfold cK; rw [hF]
      have e2 : bK F upC b (k + 1) = (chosenR x f n (bK F upC b k) (pl ++ [upC k])).2 := by show (F _ _).2 = _; rw [hF]
      obtain ⟨q, hq⟩ : ∃ q, q = pl ++ [upC k] := ⟨_, rfl⟩
      rw [← hq] at i3 i2 e1 e2
      have hlt : decide (upC k < ((x.l.getD pl.length default).l.length : Int)) = true := by rw [hpl, hN]; exact decide_eq_true hin'.2
      obtain ⟨s1, hs1⟩ : ∃ s1, s1 = (⟨[upC k], .exa⟩ : KL Int) := ⟨_, rfl⟩
      refine vcQ [] (lkL [(4, [1, 2, 3, 7, 25]), (6, [1, 2, 3, 7, 40]), (7, [6]), (5, [1, 2, 3, 7])]) (lkL [(6, [(8, ROrc.kop (encI s1)), (9, ROrc.kop (encI (KL.mk q Fz.may))), (11, ROrc.gcall (AV.bool (chosenR x f n (bK F upC b k) q).fst) (G (chosenR x f n (bK F upC b k) q).snd))])]) (fun (Q : AEx → St R.σ → Prop) => 1 ≤ 1 ∧ (0 ≤ (↑(List.length pl) : Int) ∧ (↑(List.length pl) : Int) < (↑(List.length x.l) : Int)) ∧ 1 ≤ 1 ∧ (decide (upC k < (↑(List.length (List.getD x.l (List.length pl) default).l) : Int)) = true → Tables.follows Try.prog.toTables Departure.mixedOrders = true ∧ 1 ≤ 1 ∧ (0 ≤ (↑(List.length pl) : Int) ∧ (↑(List.length pl) : Int) ≤ (↑(List.length pl) : Int)) ∧ (0 ≤ (↑(List.length pl) : Int) ∧ (↑(List.length pl) : Int) ≤ (↑(List.length pl) : Int)) ∧ List.length pl = List.length pl ∧ OpOk Try.prog R (Oper.mk (some 36) (Op.buildSlice 26 1 #[(0, Operand.tmp 35)]) 26 "outright.go:120" #[Edge.mk 7 Ground.data] none) (evO [Row.mk (some 35) none (int i64 (upC k)) false (some []) [], Row.mk (some 34) none (fz Fz.exm 1 (List.length pl - 0) fun (i j : Nat) => int i64 (List.getD pl (0 + i) 0)) false (some []) [], Row.mk (some 33) none (int i64 (↑(List.length pl) : Int)) false (some []) [], Row.mk (some 32) none (fz Fz.may 1 (List.length pl) fun (i x : Nat) => int i64 (List.getD pl i 0)) false (some []) [], Row.mk (some 31) none (int i64 (↑(List.length pl) : Int)) false (some []) [], Row.mk (some 30) none (fz Fz.may 1 (List.length pl) fun (i x : Nat) => int i64 (List.getD pl i 0)) false (some []) [], Row.mk (some 29) none (fz Fz.may 1 (List.length pl) fun (i x : Nat) => int i64 (List.getD pl i 0)) false (some []) [], Row.mk (some 28) none (encIx x) false (some []) [0]] [(1, fz Fz.may 1 (List.length pl) fun (i x : Nat) => int i64 (List.getD pl i 0)), (2, val u), (3, ref 0 0), (7, int i64 (upC k)), (25, AV.bool (decide (upC k < (↑(List.length (List.getD x.l (List.length pl) default).l) : Int))))] []) [cells false 1 (nth [encPacks x])] (G (bK F upC b k)) (encI s1) [cells false 1 (nth [encPacks x])] (G (bK F upC b k)) ∧ OpOk Try.prog R (Oper.mk (some 37) (Op.call (Call.mk (Callee.builtin Builtin.append) #[Operand.tmp 34, Operand.tmp 36] #[26, 26])) 26 "outright.go:120" #[Edge.mk 6 Ground.data, Edge.mk 8 Ground.data] none) (evO [Row.mk (some 36) none (encI s1) true (some []) [], Row.mk (some 35) none (int i64 (upC k)) false (some []) [], Row.mk (some 34) none (fz Fz.exm 1 (List.length pl - 0) fun (i j : Nat) => int i64 (List.getD pl (0 + i) 0)) false (some []) [], Row.mk (some 33) none (int i64 (↑(List.length pl) : Int)) false (some []) [], Row.mk (some 32) none (fz Fz.may 1 (List.length pl) fun (i x : Nat) => int i64 (List.getD pl i 0)) false (some []) [], Row.mk (some 31) none (int i64 (↑(List.length pl) : Int)) false (some []) [], Row.mk (some 30) none (fz Fz.may 1 (List.length pl) fun (i x : Nat) => int i64 (List.getD pl i 0)) false (some []) [], Row.mk (some 29) none (fz Fz.may 1 (List.length pl) fun (i x : Nat) => int i64 (List.getD pl i 0)) false (some []) [], Row.mk (some 28) none (encIx x) false (some []) [0]] [(1, fz Fz.may 1 (List.length pl) fun (i x : Nat) => int i64 (List.getD pl i 0)), (2, val u), (3, ref 0 0), (7, int i64 (upC k)), (25, AV.bool (decide (upC k < (↑(List.length (List.getD x.l (List.length pl) default).l) : Int))))] []) [cells false 1 (nth [encPacks x])] (G (bK F upC b k)) (fz Fz.may 1 (List.length q) fun (i x : Nat) => int i64 (List.getD q i 0)) [cells false 1 (nth [encPacks x])] (G (bK F upC b k)) ∧ (true = true ∧ Does Try.prog R 25 [encIx x, fz Fz.may 1 (List.length q) fun (i x : Nat) => int i64 (List.getD q i 0), val u] [cells false 1 (nth [encPacks x])] (G (bK F upC b k)) (ret (AV.bool (chosenR x f n (bK F upC b k) q).fst)) [cells false 1 (nth [encPacks x])] (G (chosenR x f n (bK F upC b k) q).snd)) ∧ ((!(chosenR x f n (bK F upC b k) q).fst) = true → Q AEx.ret (St.mk [(6, AV.bool false)] [cells false 1 (nth [encPacks x])] (G (chosenR x f n (bK F upC b k) q).snd))) ∧ ((!(chosenR x f n (bK F upC b k) q).fst) = false → (-9223372036854775808 ≤ upC k + 1 ∧ upC k + 1 ≤ 9223372036854775807) ∧ Q AEx.normal (St.mk [(1, fz Fz.may 1 (List.length pl) fun (i x : Nat) => int i64 (List.getD pl i 0)), (2, val u), (3, ref 0 0), (7, int i64 (upC k + 1))] [cells false 1 (nth [encPacks x])] (G (chosenR x f n (bK F upC b k) q).snd)))) ∧ (decide (upC k < (↑(List.length (List.getD x.l (List.length pl) default).l) : Int)) = false → Q (AEx.exit 0) (St.mk [(1, fz Fz.may 1 (List.length pl) fun (i x : Nat) => int i64 (List.getD pl i 0)), (2, val u), (3, ref 0 0), (7, int i64 (upC k)), (25, AV.bool (decide (upC k < (↑(List.length (List.getD x.l (List.length pl) default).l) : Int))))] [cells false 1 (nth [encPacks x])] (G (bK F upC b k))))) (fun _ => by kernel_rfl) ⟨(by omega), ⟨(by omega), ⟨(by omega), ⟨fun _ => ⟨(by kernel_rfl), ⟨(by omega), ⟨(by omega), ⟨(by omega), ⟨rfl, ⟨?_, ⟨?_, ⟨⟨rfl, (does_subG [] 1 (killO [] ([cells false 1 (nth [encPacks x])])) (fun FM ρ => ih (absorbS (R) FM ρ (pickP ρ [])) (fun b => (G b, killO [] ([cells false 1 (nth [encPacks x])]))) (hE.lift FM ρ _ _) (bK F upC b k) (q) (by omega) (by omega) (by omega)) rfl rfl rfl (by exact trivial) (by exact trivial) (by exact ⟨le_ren (by exact ⟨trivial, trivial⟩), ⟨le_ren (by exact trivial), ⟨le_ren (by exact trivial), trivial⟩⟩⟩) (by exact le_unren (by exact trivial)) (by exact ⟨LeO.rflc, trivial⟩))⟩, ⟨fun c1 => have c1 : (chosenR x f n (bK F upC b k) q).fst = false := ((Bool.not_eq_true' _).mp c1); ?_, fun c1 => have c1 : (chosenR x f n (bK F upC b k) q).fst = true := ((Bool.not_eq_false' _).mp c1); ⟨(by omega), ?_⟩⟩⟩⟩⟩⟩⟩⟩⟩⟩, fun hcc => (nomatch (hlt.symm.trans hcc))⟩⟩⟩⟩
      · subst hs1; exact opOk_litB (n := 1) (es := 1) (by kernel_rfl) (by exact ⟨trivial, trivial⟩) rfl rfl (fun i hi j hj => match i, hi, j, hj with | 0, _, 0, _ => (by kernel_rfl) ) (fun i hi j hj => match i, hi, j, hj with | 0, _, 0, _ => trivial )
      · have hroom : maxRoom = 140737488355328 := rfl
        have hs1l : s1.l.length = 1 := by rw [hs1]; rfl
        refine opOk_app (b := false) (List.length pl - 0 + List.length s1.l) 1 ((List.length pl - 0 + List.length s1.l) * 1) (plainJ 1 (List.length pl - 0) (fun (i j : Nat) => int i64 (List.getD pl (0 + i) 0)) fun (i x : Nat) => int i64 (List.getD s1.l i 0)) ([List.length pl - 0 = 0 ∨ 0 < List.length s1.l, 0 < 1, (List.length pl - 0 + List.length s1.l) * 8 ≤ maxRoom, List.length pl - 0 + List.length s1.l ≤ maxRoom]) (by kernel_rfl) (by kernel_rfl) (by kernel_rfl) ⟨(by omega), (by omega), (by omega), (by omega), trivial⟩ (by exact ⟨trivial, ⟨trivial, trivial⟩⟩) (by omega) (fun j hj => ?_) ?_
        · unfold plainJ; split <;> trivial
        · rw [hq]
          subst hs1
          exact ints_app (by simp)
      · rw [← e1] at c1
        rw [goN_at h2 hk c1, ← e2]
        refine ⟨_, To.refl _, (retQ_le (retQ_drop _ _ rfl trivial trivial rfl) (Le.refl _))⟩
      · rw [← e1] at c1
        rw [← e2]
        refine (next_round (k + 1) (to_fr ⟨(Le.refl _), ⟨(Le.refl _), ⟨(Le.refl _), ⟨(Le.of_eq ?_), trivial⟩⟩⟩⟩ rfl rfl) ?_ ?_)
        · show AV.int _ _ = AV.int _ _
          congr 1
          show (k : Int) - 1 + 1 = ((k + 1 : Nat) : Int) - 1
          omega
        · refine ⟨by omega, fun j hj => ?_⟩
          rcases Nat.lt_or_ge j k with h | h
          · exact h2 j h
          · have : j = k := by omega
            subst this; exact c1
        · omega
    · have : k = N + 1 := by omega
      subst this
      have hlt : decide (upC (N + 1) < ((x.l.getD pl.length default).l.length : Int)) = false := by rw [hpl, hN]; exact decide_eq_false (by show ¬ ((N + 1 : Nat) : Int) - 1 < N; omega)
      rw [goN_all h2]
      refine vcQ [] (lkL [(4, [1, 2, 3, 7, 25]), (6, [1, 2, 3, 7, 40])]) (fun _ => []) (fun (Q : AEx → St R.σ → Prop) => 1 ≤ 1 ∧ (0 ≤ (↑(List.length pl) : Int) ∧ (↑(List.length pl) : Int) < (↑(List.length x.l) : Int)) ∧ 1 ≤ 1 ∧ (decide (upC (N + 1) < (↑(List.length (List.getD x.l (List.length pl) default).l) : Int)) = true → False) ∧ (decide (upC (N + 1) < (↑(List.length (List.getD x.l (List.length pl) default).l) : Int)) = false → Q (AEx.exit 0) (St.mk [(1, fz Fz.may 1 (List.length pl) fun (i x : Nat) => int i64 (List.getD pl i 0)), (2, val u), (3, ref 0 0), (7, int i64 (upC (N + 1))), (25, AV.bool (decide (upC (N + 1) < (↑(List.length (List.getD x.l (List.length pl) default).l) : Int))))] [cells false 1 (nth [encPacks x])] (G (bK F upC b (N + 1)))))) (fun _ => by kernel_rfl) ⟨(by omega), ⟨(by omega), ⟨(by omega), ⟨fun hcc => (nomatch (hlt.symm.trans hcc)), fun _ => ?_⟩⟩⟩⟩
      refine ⟨_, To.refl _, vcQ [] (lkL [(8, [6])]) (fun _ => []) (fun (Q : AEx → St R.σ → Prop) => Q AEx.ret (St.mk [(6, AV.bool true)] [cells false 1 (nth [encPacks x])] (G (bK F upC b (N + 1))))) (fun _ => by kernel_rfl) (?_)⟩
      refine (retQ_le (retQ_drop _ _ rfl trivial trivial rfl) (Le.refl _))
theorem chosen_all {β : Type} (x : Ix) (h8 : x.l.length ≤ 8) (h5 : ∀ i, i < x.l.length → (x.l.getD i default).l.length ≤ 5) (I : β → Prop) (f : β → List Int → Bool × β) (u : Value) :
    ∀ (n m : Nat), m + n = x.l.length → ∀ (R : Res) (G : β → R.σ), ChosenH x R G I f u → ∀ b pl, I b → pl.length = m → inL x pl → Does Try.prog R 25 [encIx x, encI ⟨pl, .may⟩, .val u] [] (G b) (.ret (.bool (chosenR x f n b pl).1)) [] (G (chosenR x f n b pl).2)
  | 0, m, hm, R, G, hE, b, pl, hb, hpl, hp => chosen_zero x R G I f u hE b pl hb (by omega) hp
  | n + 1, m, hm, R, G, hE, b, pl, hb, hpl, hp =>
    chosen_succ x h8 h5 I f u n m hm (fun R G hE b pl hb hpl hp => chosen_all x h8 h5 I f u n (m + 1) (by omega) R G hE b pl hb hpl hp) R G hE b pl hb hpl hp
theorem chosen_fn {β : Type} (x : Ix) (h8 : x.l.length ≤ 8) (h5 : ∀ i, i < x.l.length → (x.l.getD i default).l.length ≤ 5) (I : β → Prop) (f : β → List Int → Bool × β)
    (R : Res) (H : β → List AObj) (G : β → R.σ) (hlen : ∀ b b', (H b).length = (H b').length) {f1 na1 nb1 : Nat} {a1 b1 : Nat → AV} (hpl1 : isPlain Try.prog f1 = true)
    (hf : ∀ b pl, I b → pl.length = x.l.length → inL x pl → Does Try.prog R f1 (tab na1 0 a1 ++ [encI ⟨pl, .may⟩] ++ tab nb1 0 b1) (H b) (G b) (.ret (.bool (f b pl).1)) (H (f b pl).2) (G (f b pl).2))
    (fI : ∀ b pl, I b → pl.length = x.l.length → inL x pl → I (f b pl).2) (b : β) (hb : I b) {s0 : Nat} {z : Nat → Nat → AV} :
    Does Try.prog R 25 [encIx x, .fz .nil s0 0 z, .fn f1 na1 a1 nb1 b1] (H b) (G b) (.ret (.bool (chosenR x f x.l.length b []).1)) (H (chosenR x f x.l.length b []).2) (G (chosenR x f x.l.length b []).2) :=
  does_conv (args' := [encIx x, encI ⟨[], .may⟩, .fn f1 na1 a1 nb1 b1]) (does_fnS (pre := [encIx x, encI ⟨[], .may⟩]) ⟨⟨trivial, trivial⟩, trivial, trivial⟩ (fun FM ρ u1 h1 =>
    chosen_all x h8 h5 I f u1 x.l.length 0 (by omega) (absorb R FM ρ) (fun b => (G b, H b))
      ⟨fun b pl i1 i2 i3 hpo => vdoes_absorb h1 hpl1 (args := [encI ⟨pl, .may⟩]) (fun j hj => allB_nth (k := 0) (l := [encI ⟨pl, .may⟩]) ⟨trivial, trivial⟩ j hj) (oc := .ret (.bool _)) trivial (hlen _ _) (hf b pl i1 i2 i3) hpo, fI⟩ b [] hb rfl (fun i hi => absurd hi (by simp))))
    ⟨Le.refl _, Le.nil_may, Le.refl _, trivial⟩ (Le.refl _)
end Go.Avm.Pack
namespace Go.Avm.Pack
open Go Go.Avm Go.Proofs
open Go.IntKind (i64 u64)
open Go.Avm.AV (int bool any fz fp sl ow ref fn ifc val agg tup)
open Go.Avm.AObj (cells dead)
open Go.Avm.Oc (ret)
set_option maxRecDepth 4000
def plansF : List (KL Rel) → Int → Int
  | [], n => n
  | l :: r, n => if 600 < n * ((l.l.length : Int) + 1) then 0 else plansF r (n * ((l.l.length : Int) + 1))
theorem c_plans (R : Res) (x : Ix) (hp : List AObj) (g : R.σ) (hs : small x) : Does Try.prog R 24 [encIx x] hp g (.ret (.int .i64 (plansF x.l 1))) hp g := by
  have w1 := hs.1
  refine does_any' (fun R g => ?_) (by exact ⟨⟨trivial, trivial⟩, trivial⟩) R hp g
  refine spec_of_wp (nt := 22) (rs := [.tmp 2]) (k0 := 0) (by kernel_rfl) (by kernel_rfl) (by kernel_rfl) rfl ?_
  refine vcQ [] (lkL [(0, [1]), (1, [1, 3]), (2, [3, 7, 8, 9])]) (fun _ => []) (fun (Q : AEx → St R.σ → Prop) => 1 ≤ 1 ∧ Wp Try.prog R 22 0 Rd.top (bodyOf Try.prog 24) [1, 1, 0, 1, 0] (contQ Try.prog R 22 0 Rd.top (bodyOf Try.prog 24) Q [Kont.blk 0, Kont.seq [1, 1, 1]]) (St.mk [(3, int i64 1), (7, encPacks x), (8, int i64 (↑(List.length x.l) : Int)), (9, int i64 0)] [cells false 1 (nth [encPacks x])] g)) (fun _ => by kernel_rfl) ⟨(by omega), ?_⟩
  refine (wp_loop (by kernel_rfl) (fun (y : Nat × Int) => ⟨[(3, .int .i64 y.2), (7, encPacks x), (8, int i64 (↑(List.length x.l) : Int)), (9, .int .i64 (y.1 : Int))], [cells false 1 (nth [encPacks x])], g⟩) (fun (y : Nat × Int) => (y.1 ≤ x.l.length ∧ 1 ≤ y.2 ∧ y.2 ≤ 600 ∧ plansF x.l 1 = plansF (x.l.drop y.1) y.2)) (fun (y : Nat × Int) => (x.l.length - y.1)) (0, 1) (to_fr ⟨(Le.refl _), ⟨(Le.refl _), ⟨(Le.refl _), ⟨(Le.of_eq (by kernel_rfl)), trivial⟩⟩⟩⟩ rfl rfl) ?_ (fun y hi => ?_))
  · exact ⟨Nat.zero_le _, by decide, by decide, rfl⟩
  · obtain ⟨i, n⟩ := y
    obtain ⟨h1, h2, h3, h4⟩ := hi
    have w2 := hs.2 i
    have e : i < x.l.length → plansF x.l 1 = if 600 < n * (((x.l.getD i default).l.length : Int) + 1) then 0 else plansF (x.l.drop (i + 1)) (n * (((x.l.getD i default).l.length : Int) + 1)) := fun hi => by
      show plansF x.l 1 = _
      rw [show plansF x.l 1 = plansF (x.l.drop i) n from h4, getD_drop x.l default hi]; rfl
    have b1 : 1 ≤ n * (((x.l.getD i default).l.length : Int) + 1) := by
      have : (1 : Int) * 1 ≤ n * (((x.l.getD i default).l.length : Int) + 1) := Int.mul_le_mul h2 (by omega) (by decide) (by omega)
      omega
    have b2 : n * (((x.l.getD i default).l.length : Int) + 1) ≤ 600 * 1000001 := Int.mul_le_mul h3 (by omega) (by omega) (by omega)
    refine vcQ [] (lkL [(3, [3, 7, 8, 9, 10]), (4, [3, 5, 7, 8, 9]), (5, [3, 7, 8, 9]), (6, [3, 7, 8, 9, 19]), (7, [2]), (8, [3, 7, 8, 9])]) (fun _ => []) (fun (Q : AEx → St R.σ → Prop) => (decide ((↑i : Int) < (↑(List.length x.l) : Int)) = true → (0 ≤ (↑i : Int) ∧ (↑i : Int) < (↑(List.length x.l) : Int)) ∧ 1 ≤ 1 ∧ (-9223372036854775808 ≤ (↑(List.length (List.getD x.l i default).l) : Int) + 1 ∧ (↑(List.length (List.getD x.l i default).l) : Int) + 1 ≤ 9223372036854775807) ∧ (-9223372036854775808 ≤ n * ((↑(List.length (List.getD x.l i default).l) : Int) + 1) ∧ n * ((↑(List.length (List.getD x.l i default).l) : Int) + 1) ≤ 9223372036854775807) ∧ (decide (n * ((↑(List.length (List.getD x.l i default).l) : Int) + 1) > 600) = true → Q AEx.ret (St.mk [(2, int i64 0)] [cells false 1 (nth [encPacks x])] g)) ∧ (decide (n * ((↑(List.length (List.getD x.l i default).l) : Int) + 1) > 600) = false → (-9223372036854775808 ≤ (↑i : Int) + 1 ∧ (↑i : Int) + 1 ≤ 9223372036854775807) ∧ Q AEx.normal (St.mk [(3, int i64 (n * ((↑(List.length (List.getD x.l i default).l) : Int) + 1))), (7, encPacks x), (8, int i64 (↑(List.length x.l) : Int)), (9, int i64 ((↑i : Int) + 1))] [cells false 1 (nth [encPacks x])] g))) ∧ (decide ((↑i : Int) < (↑(List.length x.l) : Int)) = false → Q (AEx.exit 0) (St.mk [(3, int i64 n), (7, encPacks x), (8, int i64 (↑(List.length x.l) : Int)), (9, int i64 (↑i : Int)), (10, AV.bool (decide ((↑i : Int) < (↑(List.length x.l) : Int))))] [cells false 1 (nth [encPacks x])] g))) (fun _ => by kernel_rfl) ⟨fun c1 => have c1 : (↑i : Int) < (↑(List.length x.l) : Int) := (of_decide_eq_true c1); ⟨(by omega), ⟨(by omega), ⟨(by omega), ⟨(by omega), ⟨fun c2 => have c2 : n * ((↑(List.length (List.getD x.l i default).l) : Int) + 1) > 600 := (of_decide_eq_true c2); ?_, fun c2 => have c2 : ¬n * ((↑(List.length (List.getD x.l i default).l) : Int) + 1) > 600 := (of_decide_eq_false c2); ⟨(by omega), ?_⟩⟩⟩⟩⟩⟩, fun c1 => have c1 : ¬(↑i : Int) < (↑(List.length x.l) : Int) := (of_decide_eq_false c1); ?_⟩
    · refine ⟨_, To.refl _, (retQ_le (retQ_drop _ _ rfl trivial trivial rfl) (Le.of_eq ?_))⟩
      show (int i64 0) = _
      rw [e (by omega), if_pos c2]
    · refine (next_round (i + 1, n * (((x.l.getD i default).l.length : Int) + 1)) (to_fr ⟨(Le.refl _), ⟨(Le.refl _), ⟨(Le.refl _), ⟨(Le.of_eq (by kernel_rfl)), trivial⟩⟩⟩⟩ rfl rfl) ?_ ?_)
      · exact ⟨by show i + 1 ≤ _; omega, b1, by show n * _ ≤ 600; omega, by rw [e (by omega), if_neg (by omega)]⟩
      · show x.l.length - (i + 1) < x.l.length - i
        omega
    · refine ⟨_, To.refl _, vcQ [] (lkL [(9, [2])]) (fun _ => []) (fun (Q : AEx → St R.σ → Prop) => Q AEx.ret (St.mk [(2, int i64 n)] [cells false 1 (nth [encPacks x])] g)) (fun _ => by kernel_rfl) (?_)⟩
      refine (retQ_le (retQ_drop _ _ rfl trivial trivial rfl) (Le.of_eq ?_))
      show (int i64 n) = _
      have : i = x.l.length := by omega
      rw [h4]
      show AV.int .i64 n = AV.int .i64 (plansF (x.l.drop i) n)
      rw [List.drop_eq_nil_of_le (by omega)]; rfl
def brkL (x : Ix) (gl : List Rng) (c : Clause) (pl : List Int) : Bool := brokenB x gl c (planOf pl x.l.length) x.l.length
end Go.Avm.Pack
namespace Go.Avm.Pack
open Go Go.Avm Go.Proofs
open Go.IntKind (i64 u64)
open Go.Avm.AV (int bool any fz fp sl ow ref fn ifc val agg tup)
open Go.Avm.AObj (cells dead)
open Go.Avm.Oc (ret)
set_option maxRecDepth 4000
def rightB (x : Ix) (gl : List Rng) (pl : List Int) : Bool := (faultR x gl pl).1 == 0
def hpC1 (x : Ix) (gl : KL Rng) (core : KL Clause) (b : Bool) : List AObj := [.cells false 1 (nth [encPacks x]), .cells false 1 (fun _ => encR gl), .cells false 1 (nth [encC core]), .cells false 1 (nth [.bool b])]
def boolsC (q : Nat → Bool) : Nat → AV := fun j => .bool (q j)
def lastN (q : Nat → Bool) : Nat → Nat
  | 0 => 0
  | i + 1 => if q i then i else lastN q i
def brkAt (x : Ix) (gl : List Rng) (core : List Clause) (pl : List Int) (i : Nat) : Bool := brkL x gl (core.getD i default) pl
def coreF (x : Ix) (gl : List Rng) (core : List Clause) (b : Nat → Bool) (pl : List Int) : Bool × (Nat → Bool) :=
  (decide (0 < cntN core.length (brkAt x gl core pl)), if cntN core.length (brkAt x gl core pl) = 1 then fun j => if j = lastN (brkAt x gl core pl) core.length then true else b j else b)
def hpC2 (x : Ix) (gl : KL Rng) (core : KL Clause) (f : Bool) (b : Nat → Bool) : List AObj := [.cells false 1 (nth [encPacks x]), .cells false 1 (fun _ => encR gl), .cells false 1 (nth [encC core]), .cells false 1 (nth [.bool f]), .cells false (core.l.length * 1) (boolsC b), .cells false 1 (nth [.sl 4 0 core.l.length core.l.length true 1])]
end Go.Avm.Pack
namespace Go.Avm.Pack
open Go Go.Avm Go.Proofs
open Go.IntKind (i64 u64)
open Go.Avm.AV (int bool any fz fp sl ow ref fn ifc val agg tup)
open Go.Avm.AObj (cells dead)
open Go.Avm.Oc (ret)
set_option maxRecDepth 4000

def enumS (x : Ix) : Nat → List Int → List (List Int)
  | 0, pl => [pl]
  | k + 1, pl => (List.range ((x.l.getD (x.l.length - (k + 1)) default).l.length + 1)).flatMap fun j => enumS x k (pl.set (x.l.length - (k + 1)) (itemC (x.l.getD (x.l.length - (k + 1)) default).l.length j))
def isPlan (x : Ix) (q : List Int) : Prop := q.length = x.l.length ∧ ∀ i, i < x.l.length → -1 ≤ q.getD i 0 ∧ q.getD i 0 < ((x.l.getD i default).l.length : Int)
theorem itemC_surj {N : Nat} {v : Int} (h1 : -1 ≤ v) (h2 : v < N) : ∃ j, j < N + 1 ∧ itemC N j = v := by
  by_cases h : v = -1
  · exact ⟨0, by omega, by rw [h]; rfl⟩
  · refine ⟨(N - v).toNat, by omega, ?_⟩
    obtain ⟨j, hj⟩ : ∃ j, (N - v).toNat = j + 1 := ⟨(N - v).toNat - 1, by omega⟩
    rw [hj]
    show (N : Int) - (j + 1 : Nat) = v
    omega
theorem enumS_mem {x : Ix} {q : List Int} : ∀ (k m : Nat), m + k = x.l.length → ∀ pl : List Int, pl.length = x.l.length →
    (q ∈ enumS x k pl ↔ q.length = x.l.length ∧ (∀ i, i < m → q.getD i 0 = pl.getD i 0) ∧ ∀ i, m ≤ i → i < x.l.length → -1 ≤ q.getD i 0 ∧ q.getD i 0 < ((x.l.getD i default).l.length : Int))
  | 0, m, hm, pl, hpl => by
    show q ∈ [pl] ↔ _
    rw [List.mem_singleton]
    constructor
    · rintro rfl
      exact ⟨hpl, fun _ _ => rfl, fun i h1 h2 => absurd h2 (by omega)⟩
    · rintro ⟨h1, h2, _⟩
      exact ext_getD 0 (by rw [h1, hpl]) (fun j hj => h2 j (by omega))
  | k + 1, m, hm, pl, hpl => by
    have em : x.l.length - (k + 1) = m := by omega
    unfold enumS
    rw [em, List.mem_flatMap]
    constructor
    · rintro ⟨j, hj, hq⟩
      have hj : j < (x.l.getD m default).l.length + 1 := by simpa using hj
      obtain ⟨h1, h2, h3⟩ := (enumS_mem k (m + 1) (by omega) _ (by simpa using hpl)).1 hq
      refine ⟨h1, fun i hi => ?_, fun i hi1 hi2 => ?_⟩
      · rw [h2 i (by omega), set_getD (by omega), if_neg (by omega)]
      · rcases Nat.lt_or_ge m i with h | h
        · exact h3 i (by omega) hi2
        · have : i = m := by omega
          subst this
          rw [h2 i (by omega), set_getD (by omega), if_pos rfl]
          exact itemC_in hj
    · rintro ⟨h1, h2, h3⟩
      obtain ⟨a, b⟩ := h3 m (Nat.le_refl _) (by omega)
      obtain ⟨j, hj, hv⟩ := itemC_surj a b
      refine ⟨j, by simpa using hj, (enumS_mem k (m + 1) (by omega) _ (by simpa using hpl)).2 ⟨h1, fun i hi => ?_, fun i hi1 hi2 => h3 i (by omega) hi2⟩⟩
      rw [set_getD (by omega)]
      by_cases he : i = m
      · rw [if_pos he, hv, he]
      · rw [if_neg he, h2 i (by omega)]
def plansL (x : Ix) : List (List Int) := enumS x x.l.length (planL (fun _ => -1) x.l.length)
theorem plansL_mem {x : Ix} {q : List Int} : q ∈ plansL x ↔ isPlan x q := by
  unfold plansL
  rw [enumS_mem x.l.length 0 (by omega) _ (planL_len _ _)]
  exact ⟨fun h => ⟨h.1, fun i hi => h.2.2 i (Nat.zero_le _) hi⟩, fun h => ⟨h.1, fun i hi => absurd hi (by omega), fun i _ hi => h.2 i hi⟩⟩
theorem broken_mono {x : Ix} {gl : List Rng} {c : Clause} {p : Nat → Int} {m n : Nat} (hmn : m ≤ n) (h : brokenB x gl c p m = true) : brokenB x gl c p n = true := by
  unfold brokenB at h ⊢
  have key : ∀ (a : Int) (q : Bool), (decide (a < (m : Int)) && q) = true → (decide (a < (n : Int)) && q) = true := fun a q h => by
    simp only [Bool.and_eq_true, decide_eq_true_eq] at h ⊢
    exact ⟨by omega, h.2⟩
  split
  · rename_i h1
    rw [if_pos h1] at h
    exact key _ _ h
  · rename_i h1
    rw [if_neg h1] at h
    by_cases h2 : c.pack ≥ m ∨ p c.pack.toNat ≠ c.rel
    · rw [if_pos h2] at h; cases h
    · rw [if_neg h2] at h
      rw [if_neg (fun h3 => h2 (h3.imp (fun h => by omega) id))]
      split
      · rename_i h3
        rw [if_pos h3] at h
        exact key _ _ h
      · rename_i h3
        rw [if_neg h3] at h
        exact key _ _ h
theorem brk_mono {x : Ix} {gl : List Rng} {l : List Clause} (hx : formedB x = true) (hgl : ∀ r ∈ gl, 0 ≤ r.pack ∧ r.pack < x.l.length) (hl : ∀ c ∈ l, thereC x gl c) {p q : Nat → Int} {m n : Nat} (hmn : m ≤ n) (hpq : ∀ j, j < m → p j = q j) (h : brkB x gl l p m = true) : brkB x gl l q n = true := by
  unfold brkB at *
  rw [List.any_eq_true] at *
  obtain ⟨c, hc, hb⟩ := h
  rw [broken_congr hx hgl (hl c hc) hpq] at hb
  exact ⟨c, hc, broken_mono hmn hb⟩
def okP (x : Ix) (gl : List Rng) (l : List Clause) (right : Bool) (q : List Int) : Bool := !(brkB x gl l (planOf q x.l.length) x.l.length) && (!right || (faultOf x gl (planOf q x.l.length)).1 == 0)
def stepO (x : Ix) (gl : List Rng) (l : List Clause) (right : Bool) (hv : List Int) (s : List Int × Int) (q : List Int) : List Int × Int :=
  if okP x gl l right q && (Nat.beq s.1.length 0 || decide ((diffN q hv : Int) < s.2)) then (q, (diffN q hv : Int)) else s
def InvO (hv : List Int) (s : List Int × Int) : Prop := hv = [] → s.1 ≠ [] → s.2 ≤ 0
theorem diffN_nil (q : List Int) : diffN q [] = 0 := by
  unfold diffN
  simp [cntN]
theorem stepO_inv {x : Ix} {gl : List Rng} {l : List Clause} {right : Bool} {hv : List Int} {s : List Int × Int} {q : List Int} (h : InvO hv s) : InvO hv (stepO x gl l right hv s q) := by
  unfold stepO
  split
  · intro e _
    show (diffN q hv : Int) ≤ 0
    rw [e, diffN_nil]
    exact Int.le_refl _
  · exact h
theorem foldl_inv' {α β : Type} {P : β → Prop} {f : β → α → β} : ∀ (l : List α) (b : β), (∀ b a, a ∈ l → P b → P (f b a)) → P b → P (l.foldl f b)
  | [], _, _, hb => hb
  | a :: r, b, h, hb => foldl_inv' r (f b a) (fun b c hc hb => h b c (by simp [hc]) hb) (h b a (by simp) hb)
theorem foldl_same {α β : Type} {f : β → α → β} : ∀ (l : List α) (b : β), (∀ a ∈ l, f b a = b) → l.foldl f b = b
  | [], _, _ => rfl
  | a :: r, b, h => by
    show r.foldl f (f b a) = b
    rw [h a (by simp)]
    exact foldl_same r b (fun c hc => h c (by simp [hc]))
theorem foldl_congr' {α β : Type} {P : β → Prop} {f g : β → α → β} : ∀ (l : List α) (b : β), (∀ b a, a ∈ l → P b → f b a = g b a ∧ P (g b a)) → P b → l.foldl f b = l.foldl g b
  | [], _, _, _ => rfl
  | a :: r, b, h, hb => by
    show r.foldl f (f b a) = r.foldl g (g b a)
    obtain ⟨h1, h2⟩ := h b a (by simp) hb
    rw [h1]
    exact foldl_congr' r _ (fun b c hc hb => h b c (by simp [hc]) hb) h2
theorem from_fold {x : Ix} {gl : List Rng} {l : List Clause} {right : Bool} {hv : List Int} (hx : formedB x = true) (hgl : ∀ r ∈ gl, 0 ≤ r.pack ∧ r.pack < x.l.length) (hl : ∀ c ∈ l, thereC x gl c) : ∀ (k m : Nat), m + k = x.l.length → ∀ (s : List Int × Int) (pl : List Int), pl.length = x.l.length → InvO hv s →
    fromR x gl l right hv k s pl = (enumS x k pl).foldl (stepO x gl l right hv) s
  | 0, m, hm, s, pl, hpl, hs => by
    show _ = stepO x gl l right hv s pl
    unfold fromR stepO okP
    cases h1 : brkB x gl l (planOf pl x.l.length) x.l.length with
    | true => rfl
    | false =>
      cases right with
      | false => simp
      | true =>
        cases h2 : ((faultOf x gl (planOf pl x.l.length)).1 == 0) <;> simp
  | k + 1, m, hm, s, pl, hpl, hs => by
    have em : x.l.length - (k + 1) = m := by omega
    obtain ⟨N, hN⟩ : ∃ N, (x.l.getD m default).l.length = N := ⟨_, rfl⟩
    cases hb : brkB x gl l (planOf pl x.l.length) m with
    | true =>
      have e : fromR x gl l right hv (k + 1) s pl = s := by unfold fromR; rw [em, hb]; rfl
      rw [e, foldl_same]
      intro q hq
      obtain ⟨h1, h2, _⟩ := (enumS_mem (k + 1) m hm pl hpl).1 hq
      have : brkB x gl l (planOf q x.l.length) x.l.length = true := brk_mono hx hgl hl (show m ≤ x.l.length by omega) (fun j hj => by rw [planOf_lt (by omega), planOf_lt (by omega), h2 j hj]) hb
      unfold stepO okP
      rw [this]
      rfl
    | false =>
      rw [fromR_succ em hN hb]
      unfold enumS runR
      rw [em, hN, List.foldl_flatMap]
      refine foldl_congr' (P := InvO hv) _ s (fun s j hj hs => ?_) hs
      have hj : j < N + 1 := by simpa using hj
      refine ⟨?_, foldl_inv' _ _ (fun s q _ h => stepO_inv h) hs⟩
      unfold stepR
      cases hg : grdB hv s with
      | true =>
        simp only [if_true]
        exact from_fold hx hgl hl k (m + 1) (by omega) s _ (by simpa using hpl) hs
      | false =>
        simp only [Bool.false_eq_true, if_false]
        rw [foldl_same]
        intro q _
        unfold grdB at hg
        simp only [Bool.or_eq_false_iff, Bool.not_eq_false', Nat.beq_eq] at hg
        have hhv : hv = [] := List.eq_nil_of_length_eq_zero hg.2
        have hs1 : s.1 ≠ [] := fun e => by have := hg.1; rw [e] at this; cases this
        have := hs hhv hs1
        unfold stepO
        rw [hg.1, hhv, diffN_nil, decide_eq_false (by show ¬ ((0 : Nat) : Int) < s.2; omega)]
        simp
theorem search_fold {x : Ix} {gl : List Rng} {l : List Clause} {right : Bool} {hv : List Int} (hx : formedB x = true) (hgl : ∀ r ∈ gl, 0 ≤ r.pack ∧ r.pack < x.l.length) (hl : ∀ c ∈ l, thereC x gl c) : searchR x gl l right hv = (plansL x).foldl (stepO x gl l right hv) ([], 0) :=
  from_fold hx hgl hl x.l.length 0 (by omega) _ _ (planL_len _ _) (fun _ _ => Int.le_refl _)
end Go.Avm.Pack
namespace Go.Avm.Pack
open Go Go.Avm Go.Proofs
open Go.IntKind (i64 u64)
open Go.Avm.AV (int bool any fz fp sl ow ref fn ifc val agg tup)
open Go.Avm.AObj (cells dead)
open Go.Avm.Oc (ret)
set_option maxRecDepth 4000

theorem stepO_nil_found {x : Ix} {gl : List Rng} {l : List Clause} {right : Bool} {s : List Int × Int} (h1 : s.1 ≠ []) (h2 : s.2 ≤ 0) (q : List Int) : stepO x gl l right [] s q = s := by
  unfold stepO
  rw [diffN_nil, decide_eq_false (by show ¬ ((0 : Nat) : Int) < s.2; omega)]
  have : Nat.beq s.1.length 0 = false := by
    cases h : s.1 with
    | nil => exact absurd h h1
    | cons a r => rfl
  rw [this]
  simp
theorem fold_first {x : Ix} {gl : List Rng} {l : List Clause} {right : Bool} : ∀ (E : List (List Int)) (s : Int), (∀ q ∈ E, q ≠ []) → (E.foldl (stepO x gl l right []) ([], s)).1 = (E.find? (okP x gl l right)).getD []
  | [], _, _ => rfl
  | q :: E, s, h => by
    show (E.foldl (stepO x gl l right []) (stepO x gl l right [] ([], s) q)).1 = _
    rw [List.find?_cons]
    cases hq : okP x gl l right q with
    | false =>
      have e : stepO x gl l right [] ([], s) q = ([], s) := by unfold stepO; rw [hq]; rfl
      rw [e]
      exact fold_first E s (fun q hq => h q (by simp [hq]))
    | true =>
      have e : stepO x gl l right [] ([], s) q = (q, 0) := by unfold stepO; rw [hq, diffN_nil]; rfl
      rw [e, foldl_same E _ (fun a _ => stepO_nil_found (h q (by simp)) (Int.le_refl _) a)]
      rfl
theorem plan_ne {x : Ix} (hx : formedB x = true) {q : List Int} (h : isPlan x q) : q ≠ [] := fun e => by
  have h1 := (formed_le hx).1
  have h2 := h.1
  rw [e] at h2
  simp at h2
  omega
theorem search_first {x : Ix} {gl : List Rng} {l : List Clause} {right : Bool} (hx : formedB x = true) (hgl : ∀ r ∈ gl, 0 ≤ r.pack ∧ r.pack < x.l.length) (hl : ∀ c ∈ l, thereC x gl c) : (searchR x gl l right []).1 = ((plansL x).find? (okP x gl l right)).getD [] := by
  rw [search_fold hx hgl hl]
  exact fold_first _ _ (fun q hq => plan_ne hx (plansL_mem.1 hq))
theorem search_none {x : Ix} {gl : List Rng} {l : List Clause} {right : Bool} (hx : formedB x = true) (hgl : ∀ r ∈ gl, 0 ≤ r.pack ∧ r.pack < x.l.length) (hl : ∀ c ∈ l, thereC x gl c) : (searchR x gl l right []).1 = [] ↔ ∀ q, isPlan x q → okP x gl l right q = false := by
  rw [search_first hx hgl hl]
  cases h : (plansL x).find? (okP x gl l right) with
  | none =>
    rw [List.find?_eq_none] at h
    simp only [Option.getD_none, true_iff]
    intro q hq
    have := h q (plansL_mem.2 hq)
    simpa using this
  | some q =>
    have hq := List.find?_some h
    have hm := plansL_mem.1 (List.mem_of_find?_eq_some h)
    simp only [Option.getD_some]
    constructor
    · intro e; exact absurd e (plan_ne hx hm)
    · intro e; rw [e q hm] at hq; cases hq
theorem kept_iff {x : Ix} {gl : List Rng} {l : List Clause} (hx : formedB x = true) (hgl : ∀ r ∈ gl, 0 ≤ r.pack ∧ r.pack < x.l.length) (hl : ∀ c ∈ l, thereC x gl c) : rkeptB x gl l = true ↔ ∃ q, isPlan x q ∧ ∀ c ∈ l, brkL x gl c q = false := by
  have h := search_none (right := false) hx hgl hl
  have okq : ∀ q, okP x gl l false q = true ↔ ∀ c ∈ l, brkL x gl c q = false := fun q => by
    unfold okP brkB brkL
    simp
  unfold rkeptB
  constructor
  · intro hk
    apply Classical.byContradiction
    intro hno
    have : (searchR x gl l false []).1 = [] := h.2 (fun q hq => by
      cases ho : okP x gl l false q with
      | false => rfl
      | true => exact absurd ⟨q, hq, (okq q).1 ho⟩ hno)
    rw [this] at hk
    cases hk
  · rintro ⟨q, hq, hc⟩
    cases he : Nat.beq (searchR x gl l false []).1.length 0 with
    | false => rfl
    | true =>
      have e : (searchR x gl l false []).1 = [] := List.eq_nil_of_length_eq_zero (Nat.eq_of_beq_eq_true he)
      have := h.1 e q hq
      rw [(okq q).2 hc] at this
      cases this
theorem brk_all {x : Ix} {gl : List Rng} {l : List Clause} {q : List Int} : brkB x gl l (planOf q x.l.length) x.l.length = l.any fun c => brkL x gl c q := rfl
theorem isPlan_planned {x : Ix} {q : List Int} : plannedB x q = true ↔ isPlan x q := plannedB_iff
theorem right_eq {x : Ix} {gl : List Rng} {q : List Int} (hc : checkB x gl = true) (hq : isPlan x q) : rightB x gl q = ((faultOf x gl (planOf q x.l.length)).1 == 0) := by
  unfold rightB faultR
  rw [hc, isPlan_planned.2 hq]
  rfl

def goG {α β : Type} (f : β → α → Bool × β) : List α → β → Bool × β
  | [], b => (true, b)
  | a :: r, b => if (f b a).1 then goG f r (f b a).2 else (false, (f b a).2)
theorem goG_append {α β : Type} {f : β → α → Bool × β} : ∀ (l r : List α) (b : β), goG f (l ++ r) b = if (goG f l b).1 then goG f r (goG f l b).2 else goG f l b
  | [], r, b => by show goG f r b = if true = true then goG f r b else _; rw [if_pos rfl]
  | a :: l, r, b => by
    show (if (f b a).1 then goG f (l ++ r) (f b a).2 else (false, (f b a).2)) = _
    cases h : (f b a).1 with
    | false =>
      have e : goG f (a :: l) b = (false, (f b a).2) := by show (if (f b a).1 then _ else _) = _; rw [h]; rfl
      rw [e]; rfl
    | true =>
      have e : goG f (a :: l) b = goG f l (f b a).2 := by show (if (f b a).1 then _ else _) = _; rw [h]; rfl
      rw [e]
      exact goG_append l r _
theorem goG_flatMap {α γ β : Type} {f : β → γ → Bool × β} {g : α → List γ} : ∀ (l : List α) (b : β), goG f (l.flatMap g) b = goG (fun b a => goG f (g a) b) l b
  | [], b => rfl
  | a :: r, b => by
    rw [List.flatMap_cons, goG_append, goG_flatMap r]
    show _ = if (goG f (g a) b).1 then goG (fun b a => goG f (g a) b) r (goG f (g a) b).2 else (false, (goG f (g a) b).2)
    cases h : (goG f (g a) b).1 with
    | true => rfl
    | false =>
      simp only [Bool.false_eq_true, if_false]
      exact Prod.ext h rfl
theorem goG_congr {α β : Type} {f g : β → α → Bool × β} : ∀ (l : List α) (b : β), (∀ b a, a ∈ l → f b a = g b a) → goG f l b = goG g l b
  | [], _, _ => rfl
  | a :: r, b, h => by
    show (if (f b a).1 then goG f r (f b a).2 else (false, (f b a).2)) = (if (g b a).1 then goG g r (g b a).2 else (false, (g b a).2))
    rw [h b a (by simp), goG_congr r _ (fun b c hc => h b c (by simp [hc]))]
theorem goG_range {β : Type} {f : β → Int → Bool × β} {it : Nat → Int} {b : β} : ∀ (n : Nat), (∀ j, j < n → cK f it b j = true) → goG (fun b j => f b (it j)) (List.range n) b = (true, bK f it b n)
  | 0, _ => rfl
  | n + 1, h => by
    rw [List.range_succ, goG_append, goG_range n (fun j hj => h j (by omega))]
    have hn : (f (bK f it b n) (it n)).1 = true := h n (by omega)
    show (if (f (bK f it b n) (it n)).1 then (true, (f (bK f it b n) (it n)).2) else (false, (f (bK f it b n) (it n)).2)) = _
    rw [hn]; rfl
theorem goN_goG {β : Type} {f : β → Int → Bool × β} {it : Nat → Int} {n : Nat} {b : β} : goN f it n b = goG (fun b j => f b (it j)) (List.range n) b := by
  by_cases h : ∀ j, j < n → cK f it b j = true
  · rw [goN_all h, goG_range n h]
  · obtain ⟨k, hk, hc, hl⟩ : ∃ k, k < n ∧ cK f it b k = false ∧ ∀ j, j < k → cK f it b j = true := by
      have key : ∀ m, (∃ j, j < m ∧ cK f it b j = false) → ∃ k, k < m ∧ cK f it b k = false ∧ ∀ j, j < k → cK f it b j = true := by
        intro m
        induction m with
        | zero => rintro ⟨j, hj, _⟩; exact absurd hj (by omega)
        | succ m ih =>
          rintro ⟨j, hj, hjc⟩
          by_cases hm : ∃ j, j < m ∧ cK f it b j = false
          · obtain ⟨k, h1, h2⟩ := ih hm
            exact ⟨k, by omega, h2⟩
          · have : j = m := by
              rcases Nat.lt_or_ge j m with h | h
              · exact absurd ⟨j, h, hjc⟩ hm
              · omega
            subst this
            refine ⟨j, by omega, hjc, fun i hi => ?_⟩
            cases hi' : cK f it b i with
            | true => rfl
            | false => exact absurd ⟨i, hi, hi'⟩ hm
      refine key n ?_
      apply Classical.byContradiction
      intro hno
      exact h (fun j hj => by
        cases hj' : cK f it b j with
        | true => rfl
        | false => exact absurd ⟨j, hj, hj'⟩ hno)
    rw [goN_at hl hk hc]
    have e : List.range n = List.range k ++ (k :: (List.range (n - (k + 1))).map (fun j => (k + 1) + j)) := by
      have h1 : List.range n = List.range ((k + 1) + (n - (k + 1))) := by congr 1; omega
      rw [h1, List.range_add, List.range_succ]
      simp
    have hc' : (f (bK f it b k) (it k)).1 = false := hc
    rw [e, goG_append, goG_range k hl]
    show (false, (f (bK f it b k) (it k)).2) = if (f (bK f it b k) (it k)).1 then _ else (false, (f (bK f it b k) (it k)).2)
    rw [hc']; rfl
def enumU (x : Ix) : Nat → List Int → List (List Int)
  | 0, pl => [pl]
  | k + 1, pl => (List.range ((x.l.getD (x.l.length - (k + 1)) default).l.length + 1)).flatMap fun j => enumU x k (pl ++ [upC j])
theorem chosen_list {β : Type} {x : Ix} {f : β → List Int → Bool × β} : ∀ (k : Nat) (b : β) (pl : List Int), chosenR x f k b pl = goG f (enumU x k pl) b
  | 0, b, pl => by
    show f b pl = if (f b pl).1 then (true, (f b pl).2) else (false, (f b pl).2)
    cases h : (f b pl).1 <;> exact Prod.ext h rfl
  | k + 1, b, pl => by
    unfold chosenR enumU
    rw [goN_goG, goG_flatMap]
    exact goG_congr _ _ (fun b j _ => chosen_list k b (pl ++ [upC j]))
theorem enumU_mem {x : Ix} {q : List Int} : ∀ (k : Nat) (pl : List Int), pl.length + k = x.l.length →
    (q ∈ enumU x k pl ↔ q.length = x.l.length ∧ (∀ i, i < pl.length → q.getD i 0 = pl.getD i 0) ∧ ∀ i, pl.length ≤ i → i < x.l.length → -1 ≤ q.getD i 0 ∧ q.getD i 0 < ((x.l.getD i default).l.length : Int))
  | 0, pl, hm => by
    show q ∈ [pl] ↔ _
    rw [List.mem_singleton]
    constructor
    · rintro rfl
      exact ⟨by omega, fun _ _ => rfl, fun i h1 h2 => absurd h2 (by omega)⟩
    · rintro ⟨h1, h2, _⟩
      exact ext_getD 0 (by omega) (fun j hj => h2 j (by omega))
  | k + 1, pl, hm => by
    have em : x.l.length - (k + 1) = pl.length := by omega
    have lo : ∀ i v, i < pl.length → (pl ++ [v]).getD i 0 = pl.getD i 0 := fun i v hi => by simp [List.getD, List.getElem?_append_left hi]
    have hi' : ∀ v, (pl ++ [v]).getD pl.length 0 = v := fun v => by simp [List.getD]
    unfold enumU
    rw [em, List.mem_flatMap]
    constructor
    · rintro ⟨j, hj, hq⟩
      have hj : j < (x.l.getD pl.length default).l.length + 1 := by simpa using hj
      obtain ⟨h1, h2, h3⟩ := (enumU_mem k (pl ++ [upC j]) (by simp; omega)).1 hq
      refine ⟨h1, fun i hi => ?_, fun i hi1 hi2 => ?_⟩
      · rw [h2 i (by simp; omega), lo i _ hi]
      · rcases Nat.lt_or_ge pl.length i with h | h
        · exact h3 i (by simp; omega) hi2
        · have : i = pl.length := by omega
          subst this
          rw [h2 _ (by simp), hi']
          exact upC_in hj
    · rintro ⟨h1, h2, h3⟩
      obtain ⟨a, b⟩ := h3 pl.length (Nat.le_refl _) (by omega)
      refine ⟨(q.getD pl.length 0 + 1).toNat, List.mem_range.2 (by omega), (enumU_mem k _ (by simp; omega)).2 ⟨h1, fun i hi => ?_, fun i hi1 hi2 => h3 i (by simp at hi1; omega) hi2⟩⟩
      by_cases he : i = pl.length
      · subst he
        rw [hi']
        show _ = ((q.getD pl.length 0 + 1).toNat : Int) - 1
        omega
      · rw [lo i _ (by simp at hi; omega), h2 i (by simp at hi; omega)]
def plansU (x : Ix) : List (List Int) := enumU x x.l.length []
theorem plansU_mem {x : Ix} {q : List Int} : q ∈ plansU x ↔ isPlan x q := by
  unfold plansU
  rw [enumU_mem x.l.length [] (by simp)]
  exact ⟨fun h => ⟨h.1, fun i hi => h.2.2 i (Nat.zero_le _) hi⟩, fun h => ⟨h.1, fun i hi => absurd hi (by simp), fun i _ hi => h.2 i hi⟩⟩
end Go.Avm.Pack
namespace Go.Avm.Pack
open Go Go.Avm Go.Proofs
open Go.IntKind (i64 u64)
open Go.Avm.AV (int bool any fz fp sl ow ref fn ifc val agg tup)
open Go.Avm.AObj (cells dead)
open Go.Avm.Oc (ret)
set_option maxRecDepth 4000

theorem fstN_none_iff {n : Nat} {q : Nat → Bool} : fstN n q = none ↔ ∀ j, j < n → q j = false := by
  unfold fstN
  rw [List.find?_eq_none]
  constructor
  · intro h j hj
    have := h j (List.mem_range.2 hj)
    simpa using this
  · intro h j hj
    rw [h j (List.mem_range.1 hj)]
    simp
theorem fault_zero {x : Ix} {gl : List Rng} {p : Nat → Int} : (faultOf x gl p).1 = 0 ↔ (∀ j, j < gl.length → metB p (gl.getD j default) = true) ∧ ∀ a, a < 3 → ∀ i, i < x.l.length → badB x gl p a i = false := by
  constructor
  · intro h
    unfold faultOf lookR at h
    cases h0 : fstN gl.length (fun j => !(metB p (gl.getD j default))) with
    | some j => rw [h0] at h; exact absurd h (by decide : ¬ (1 : Int) = 0)
    | none =>
      rw [h0] at h
      simp only at h
      cases h1 : fstN x.l.length (badB x gl p 0) with
      | some j => rw [h1] at h; exact absurd h (by decide : ¬ (2 : Int) = 0)
      | none =>
        rw [h1] at h
        simp only at h
        cases h2 : fstN x.l.length (badB x gl p 1) with
        | some j => rw [h2] at h; exact absurd h (by decide : ¬ (3 : Int) = 0)
        | none =>
          rw [h2] at h
          simp only at h
          cases h3 : fstN x.l.length (badB x gl p 2) with
          | some j => rw [h3] at h; exact absurd h (by decide : ¬ (4 : Int) = 0)
          | none =>
            refine ⟨fun j hj => by simpa using fstN_none_iff.1 h0 j hj, fun a ha i hi => ?_⟩
            match a, ha with
            | 0, _ => exact fstN_none_iff.1 h1 i hi
            | 1, _ => exact fstN_none_iff.1 h2 i hi
            | 2, _ => exact fstN_none_iff.1 h3 i hi
  · rintro ⟨h1, h2⟩
    rw [fault_none (fstN_none_iff.2 (fun j hj => by rw [h1 j hj]; rfl)) h2]
theorem nums_has {c : Clause} {n i : Nat} (h : i < n) : numQ c i ∈ nums c n := List.mem_map.2 ⟨i, List.mem_range.2 h, rfl⟩
theorem mem_goal {x : Ix} {gl : List Rng} {w : Nat} (hw : w < gl.length) : (⟨-1, 0, false, w⟩ : Clause) ∈ clausesOf x gl :=
  List.mem_append_left _ (nums_has (c := ⟨-1, 0, false, 0⟩) hw)
theorem mem_rel {x : Ix} {gl : List Rng} {i k : Nat} (hi : i < x.l.length) (hk : k < (x.l.getD i default).l.length) {c : Clause} (hc : c ∈ relCl i k ((x.l.getD i default).l.getD k default)) : c ∈ clausesOf x gl :=
  List.mem_append_right _ (List.mem_flatMap.2 ⟨i, List.mem_range.2 hi, List.mem_flatMap.2 ⟨k, List.mem_range.2 hk, hc⟩⟩)
theorem mem_need {x : Ix} {gl : List Rng} {i k w : Nat} (hi : i < x.l.length) (hk : k < (x.l.getD i default).l.length) (hw : w < ((x.l.getD i default).l.getD k default).needs.l.length) : (⟨i, k, false, w⟩ : Clause) ∈ clausesOf x gl :=
  mem_rel hi hk (List.mem_append_left _ (nums_has (c := ⟨i, k, false, 0⟩) hw))
theorem mem_bar {x : Ix} {gl : List Rng} {i k w : Nat} (hi : i < x.l.length) (hk : k < (x.l.getD i default).l.length) (hw : w < ((x.l.getD i default).l.getD k default).bars.l.length) : (⟨i, k, true, w⟩ : Clause) ∈ clausesOf x gl :=
  mem_rel hi hk (List.mem_append_right _ (nums_has (c := ⟨i, k, true, 0⟩) hw))
structure KeepsAll (x : Ix) (gl : List Rng) (p : Nat → Int) : Prop where
  goal : ∀ r ∈ gl, metB p r = true
  need : ∀ i, i < x.l.length → p i ≠ -1 → ∀ r ∈ (relOf x p i).needs.l, metB p r = true
  bar : ∀ i, i < x.l.length → p i ≠ -1 → ∀ r ∈ (relOf x p i).bars.l, metB p r = false
theorem mem_getD {α : Type} {l : List α} {a d : α} (h : a ∈ l) : ∃ i, i < l.length ∧ l.getD i d = a := by
  obtain ⟨i, hi, e⟩ := List.getElem_of_mem h
  exact ⟨i, hi, by simp [List.getD, hi, e]⟩
theorem relOf_some {x : Ix} {p : Nat → Int} {i : Nat} (h : p i ≠ -1) : relOf x p i = (x.l.getD i default).l.getD (p i).toNat default := if_neg h
theorem and_dec {r s : Rng} {n : Int} {f : Rng → Bool} (e : s = r) (h : (decide (s.pack < n) && f s) = false) (hr : r.pack < n) : f r = false := by
  subst e
  rw [decide_eq_true hr] at h
  simpa using h
theorem keepsAll_of {x : Ix} {gl : List Rng} {q : List Int} (hck : checkB x gl = true) (hq : isPlan x q) (h : ∀ c ∈ clausesOf x gl, brkL x gl c q = false) : KeepsAll x gl (planOf q x.l.length) := by
  have hx := (check_parts hck).1
  have hgl := check_goals hck
  have hin := planned_inP (isPlan_planned.2 hq)
  have wN := formed_wfN hx hin
  have wB := formed_wfB hx hin
  refine ⟨fun r hr => ?_, fun i hi hp r hr => ?_, fun i hi hp r hr => ?_⟩
  · obtain ⟨w, hw, e⟩ := mem_getD (d := default) hr
    have hb := h _ (mem_goal (x := x) hw)
    unfold brkL brokenB at hb
    rw [if_pos rfl] at hb
    have := and_dec (f := fun r => !(metB (planOf q x.l.length) r)) e hb (hgl r hr).2
    simpa using this
  · have hpi := hin i hi
    rw [relOf_some hp] at hr
    obtain ⟨w, hw, e⟩ := mem_getD (d := default) hr
    have hb := h _ (mem_need (gl := gl) hi (show (planOf q x.l.length i).toNat < _ by omega) hw)
    have hwr := (wN i hi r (by rw [relOf_some hp]; exact hr)).2
    unfold brkL brokenB at hb
    rw [if_neg (by simp), if_neg (by simp only [Int.toNat_natCast]; omega), if_neg (by simp)] at hb
    have := and_dec (f := fun r => !(metB (planOf q x.l.length) r)) e hb hwr
    simpa using this
  · have hpi := hin i hi
    rw [relOf_some hp] at hr
    obtain ⟨w, hw, e⟩ := mem_getD (d := default) hr
    have hb := h _ (mem_bar (gl := gl) hi (show (planOf q x.l.length i).toNat < _ by omega) hw)
    have hwr := (wB i hi r (by rw [relOf_some hp]; exact hr)).2
    unfold brkL brokenB at hb
    rw [if_neg (by simp), if_neg (by simp only [Int.toNat_natCast]; omega), if_pos rfl] at hb
    exact and_dec (f := fun r => metB (planOf q x.l.length) r) e hb hwr
theorem keepsAll_keeps {x : Ix} {gl : List Rng} {p : Nat → Int} (h : KeepsAll x gl p) {c : Clause} (hc : thereC x gl c) : brokenB x gl c p x.l.length = false := by
  unfold brokenB
  rcases hc with ⟨h1, h2, h3⟩ | ⟨h1, h2, h3, h4, h5, h6, h7⟩
  · rw [if_pos h1, h.goal _ (getD_mem gl default (by omega))]
    simp
  · rw [if_neg (by omega)]
    split
    · rfl
    · rename_i hn
      have hn1 : ¬ c.pack ≥ (x.l.length : Int) := fun h => hn (.inl h)
      have hn2 : p c.pack.toNat = c.rel := Classical.byContradiction fun h => hn (.inr h)
      have hp : p c.pack.toNat ≠ -1 := by omega
      have er : relOf x p c.pack.toNat = (x.l.getD c.pack.toNat default).l.getD c.rel.toNat default := by rw [relOf_some hp, hn2]
      split
      · rename_i hb
        have hw := h6 hb
        have := h.bar c.pack.toNat (by omega) hp (((x.l.getD c.pack.toNat default).l.getD c.rel.toNat default).bars.l.getD c.which.toNat default) (by rw [er]; exact getD_mem _ _ (by omega))
        rw [this]
        simp
      · rename_i hb
        have hw := h7 (by simpa using hb)
        have := h.need c.pack.toNat (by omega) hp (((x.l.getD c.pack.toNat default).l.getD c.rel.toNat default).needs.l.getD c.which.toNat default) (by rw [er]; exact getD_mem _ _ (by omega))
        rw [this]
        simp
theorem fault_keeps {x : Ix} {gl : List Rng} {p : Nat → Int} : (faultOf x gl p).1 = 0 ↔ KeepsAll x gl p ∧ ∀ i, i < x.l.length → p i ≠ -1 → (neededN x gl p).testBit i = true := by
  rw [fault_zero]
  constructor
  · rintro ⟨h1, h2⟩
    refine ⟨⟨fun r hr => ?_, fun i hi hp r hr => ?_, fun i hi hp r hr => ?_⟩, fun i hi hp => ?_⟩
    · obtain ⟨w, hw, e⟩ := mem_getD (d := default) hr
      rw [← e]; exact h1 w hw
    · have := h2 0 (by omega) i hi
      rw [bad0 hp] at this
      simp only [Bool.not_eq_false'] at this
      exact List.all_eq_true.1 this r hr
    · have := h2 1 (by omega) i hi
      rw [bad1 hp] at this
      cases hm : metB p r with
      | false => rfl
      | true => rw [List.any_eq_false] at this; exact absurd hm (this r hr)
    · have := h2 2 (by omega) i hi
      rw [bad2 hp] at this
      simpa using this
  · rintro ⟨h, hn⟩
    refine ⟨fun j hj => h.goal _ (getD_mem _ _ hj), fun a ha i hi => ?_⟩
    by_cases hp : p i = -1
    · exact bad_neg hp
    · match a, ha with
      | 0, _ =>
        rw [bad0 hp, List.all_eq_true.2 (fun r hr => h.need i hi hp r hr)]; rfl
      | 1, _ =>
        rw [bad1 hp, List.any_eq_false]
        intro r hr
        rw [h.bar i hi hp r hr]
        simp
      | 2, _ =>
        rw [bad2 hp, hn i hi hp]; rfl
theorem right_keeps {x : Ix} {gl : List Rng} {q : List Int} (hck : checkB x gl = true) (hq : isPlan x q) (h : rightB x gl q = true) : ∀ c ∈ clausesOf x gl, brkL x gl c q = false := by
  rw [right_eq hck hq] at h
  intro c hc
  exact keepsAll_keeps (fault_keeps.1 (by simpa using h)).1 (there_all hc)
def pruneL (x : Ix) (gl : List Rng) (q : List Int) : List Int := (List.range x.l.length).map fun i => if (neededN x gl (planOf q x.l.length)).testBit i then q.getD i 0 else -1
theorem prune_getD {x : Ix} {gl : List Rng} {q : List Int} {i : Nat} (hi : i < x.l.length) : (pruneL x gl q).getD i 0 = if (neededN x gl (planOf q x.l.length)).testBit i then q.getD i 0 else -1 := by
  unfold pruneL
  simp [List.getD, hi]
theorem formed_low {x : Ix} {p : Nat → Int} (hx : formedB x = true) (hin : inP x p) {i : Nat} (hi : i < x.l.length) : (∀ r ∈ (relOf x p i).needs.l, 0 ≤ r.low) ∧ ∀ r ∈ (relOf x p i).bars.l, 0 ≤ r.low := by
  have key : ∀ r, otherB x i r = true → 0 ≤ r.low := fun r h => by
    unfold otherB rangedB at h
    simp only [Bool.and_eq_true, decide_eq_true_eq] at h
    exact h.1.2.2.1
  rcases relOf_cases hx hin hi with e | e
  · rw [e]
    exact ⟨fun r hr => (by cases hr), fun r hr => (by cases hr)⟩
  · unfold relB at e
    simp only [Bool.and_eq_true] at e
    exact ⟨fun r hr => key r (List.all_eq_true.1 e.1.2 r hr), fun r hr => key r (List.all_eq_true.1 e.2 r hr)⟩
theorem prune_right {x : Ix} {gl : List Rng} {q : List Int} (hck : checkB x gl = true) (hq : isPlan x q) (h : ∀ c ∈ clausesOf x gl, brkL x gl c q = false) : isPlan x (pruneL x gl q) ∧ rightB x gl (pruneL x gl q) = true := by
  have hx := (check_parts hck).1
  have hgl := check_goals hck
  have h8 := (formed_le hx).2
  have hin := planned_inP (isPlan_planned.2 hq)
  have wN := formed_wfN hx hin
  have wB := formed_wfB hx hin
  have hk := keepsAll_of hck hq h
  obtain ⟨p, hp⟩ : ∃ p, p = planOf q x.l.length := ⟨_, rfl⟩
  rw [← hp] at hin wN wB hk
  have hpq : ∀ i, i < x.l.length → p i = q.getD i 0 := fun i hi => by rw [hp, planOf_lt hi]
  obtain ⟨S, hS⟩ : ∃ S, S = neededN x gl p := ⟨_, rfl⟩
  have hlen : (pruneL x gl q).length = x.l.length := by unfold pruneL; simp
  obtain ⟨p', hp'⟩ : ∃ p', p' = planOf (pruneL x gl q) x.l.length := ⟨_, rfl⟩
  have hv : ∀ i, i < x.l.length → p' i = if S.testBit i then p i else -1 := fun i hi => by
    rw [hp', planOf_lt hi, prune_getD hi, ← hp, ← hS, hpq i hi]
  have hplan : isPlan x (pruneL x gl q) := by
    refine ⟨hlen, fun i hi => ?_⟩
    have := hq.2 i hi
    have hpos : 0 ≤ (x.l.getD i default).l.length := Nat.zero_le _
    rw [prune_getD hi]
    split
    · exact this
    · omega
  have hin' : inP x p' := by rw [hp']; exact planned_inP (isPlan_planned.2 hplan)
  have wN' := formed_wfN hx hin'
  have g1 : ∀ r ∈ gl, S.testBit r.pack.toNat = true := by rw [hS]; exact needed_goals h8 wN hgl
  have cl : ∀ j, S.testBit j = true → ∀ r ∈ (relOf x p j).needs.l, S.testBit r.pack.toNat = true := by rw [hS]; exact needed_closed h8 wN hgl
  have same : ∀ i, i < x.l.length → S.testBit i = true → p' i = p i := fun i hi h => by rw [hv i hi, if_pos h]
  have relS : ∀ i, i < x.l.length → S.testBit i = true → relOf x p' i = relOf x p i := fun i hi h => by unfold relOf; rw [same i hi h]
  have nz : ∀ i, i < x.l.length → p' i ≠ -1 → S.testBit i = true ∧ p i ≠ -1 := fun i hi h => by
    rw [hv i hi] at h
    split at h
    · rename_i h1; exact ⟨h1, h⟩
    · exact absurd rfl h
  have met : ∀ r : Rng, 0 ≤ r.pack → r.pack < x.l.length → S.testBit r.pack.toNat = true → metB p' r = metB p r := fun r h0 h1 hs => by
    unfold metB; rw [same _ (by omega) hs]
  have keeps' : KeepsAll x gl p' := by
    refine ⟨fun r hr => ?_, fun i hi hpi r hr => ?_, fun i hi hpi r hr => ?_⟩
    · rw [met r (hgl r hr).1 (hgl r hr).2 (g1 r hr)]
      exact hk.goal r hr
    · obtain ⟨hs, hpn⟩ := nz i hi hpi
      rw [relS i hi hs] at hr
      rw [met r (wN i hi r hr).1 (wN i hi r hr).2 (cl i hs r hr)]
      exact hk.need i hi hpn r hr
    · obtain ⟨hs, hpn⟩ := nz i hi hpi
      rw [relS i hi hs] at hr
      have hb := hk.bar i hi hpn r hr
      have hw := wB i hi r hr
      cases hsr : S.testBit r.pack.toNat with
      | true => rw [met r hw.1 hw.2 hsr]; exact hb
      | false =>
        have hlow := (formed_low hx hin hi).2 r hr
        unfold metB inR
        rw [hv _ (by omega), hsr]
        simp
        omega
  refine ⟨hplan, ?_⟩
  rw [right_eq hck hplan, ← hp']
  have : (faultOf x gl p').1 = 0 := fault_keeps.2 ⟨keeps', fun i hi hpi => by
    obtain ⟨hs, _⟩ := nz i hi hpi
    have hT := needed_least (x := x) (gl := gl) (p := p) (T := fun b => b < x.l.length ∧ S.testBit b = true ∧ (neededN x gl p').testBit b = true)
      (fun r hr => ⟨by have := hgl r hr; omega, g1 r hr, needed_goals h8 wN' hgl r hr⟩)
      (fun b ⟨hb, hbs, hbn⟩ r hr => ⟨by have := wN b hb r hr; omega, cl b hbs r hr, needed_closed h8 wN' hgl b hbn r (by rw [relS b hb hbs]; exact hr)⟩) i (by rw [← hS]; exact hs)
    exact hT.2.2⟩
  rw [this]; rfl
end Go.Avm.Pack
namespace Go.Avm.Pack
open Go Go.Avm Go.Proofs
open Go.IntKind (i64 u64)
open Go.Avm.AV (int bool any fz fp sl ow ref fn ifc val agg tup)
open Go.Avm.AObj (cells dead)
open Go.Avm.Oc (ret)
set_option maxRecDepth 4000


def ltC (c d : Clause) : Prop := c.pack < d.pack ∨ c.pack = d.pack ∧ (c.rel < d.rel ∨ c.rel = d.rel ∧ (c.bar = false ∧ d.bar = true ∨ c.bar = d.bar ∧ c.which < d.which))
end Go.Avm.Pack
namespace Go.Avm.Pack
open Go Go.Avm Go.Proofs
open Go.IntKind (i64 u64)
open Go.Avm.AV (int bool any fz fp sl ow ref fn ifc val agg tup)
open Go.Avm.AObj (cells dead)
open Go.Avm.Oc (ret)
set_option maxRecDepth 4000

def someRight (x : Ix) (gl : List Rng) : Bool := rkeptB x gl (clausesOf x gl)
theorem someRight_iff {x : Ix} {gl : List Rng} (hck : checkB x gl = true) : someRight x gl = true ↔ ∃ q, isPlan x q ∧ rightB x gl q = true := by
  unfold someRight
  rw [kept_iff (check_parts hck).1 (check_goals hck) (fun c hc => there_all hc)]
  constructor
  · rintro ⟨q, hq, h⟩
    exact ⟨_, prune_right hck hq h⟩
  · rintro ⟨q, hq, h⟩
    exact ⟨q, hq, right_keeps hck hq h⟩
theorem best_some {x : Ix} {gl : List Rng} (hck : checkB x gl = true) : (bestR x gl).2 = if someRight x gl then 0 else 5 := by
  have hx := (check_parts hck).1
  have hgl := check_goals hck
  have h := search_none (x := x) (gl := gl) (l := clausesOf x gl) (right := true) hx hgl (fun c hc => there_all hc)
  rw [bestR_eq hck]
  unfold rbestR
  have okq : ∀ q, isPlan x q → okP x gl (clausesOf x gl) true q = rightB x gl q := fun q hq => by
    unfold okP
    rw [right_eq hck hq, brk_all]
    cases hr : ((faultOf x gl (planOf q x.l.length)).1 == 0) with
    | false => simp
    | true =>
      have := right_keeps hck hq (by rw [right_eq hck hq, hr])
      rw [List.any_eq_false.2 (fun c hc => by rw [this c hc]; simp)]
      rfl
  cases hs : someRight x gl with
  | true =>
    obtain ⟨q, hq, hr⟩ := (someRight_iff hck).1 hs
    have : Nat.beq (searchR x gl (clausesOf x gl) true []).1.length 0 = false := by
      cases hb : Nat.beq (searchR x gl (clausesOf x gl) true []).1.length 0 with
      | false => rfl
      | true =>
        have e := List.eq_nil_of_length_eq_zero (Nat.eq_of_beq_eq_true hb)
        have := h.1 e q hq
        rw [okq q hq, hr] at this
        cases this
    rw [this]; rfl
  | false =>
    have : (searchR x gl (clausesOf x gl) true []).1 = [] := h.2 (fun q hq => by
      rw [okq q hq]
      cases hr : rightB x gl q with
      | false => rfl
      | true => rw [(someRight_iff hck).2 ⟨q, hq, hr⟩] at hs; cases hs)
    rw [this]; rfl
theorem cnt_one {n i : Nat} {q : Nat → Bool} (hi : i < n) (h : ∀ j, j < n → (q j = true ↔ j = i)) : cntN n q = 1 ∧ lastN q n = i := by
  induction n with
  | zero => exact absurd hi (by omega)
  | succ n ih =>
    rw [cntN_succ]
    unfold lastN
    by_cases he : n = i
    · have hq : q n = true := (h n (by omega)).2 he
      rw [if_pos hq, if_pos hq]
      refine ⟨?_, he⟩
      rw [cnt_zero (fun j hj => by
        cases hj' : q j with
        | false => rfl
        | true => have := (h j (by omega)).1 hj'; omega)]
    · have hq : q n = false := by
        cases hq : q n with
        | false => rfl
        | true => exact absurd ((h n (by omega)).1 hq) he
      rw [hq]
      simp only [Bool.false_eq_true, if_false, Nat.add_zero]
      exact ih (by omega) (fun j hj => h j (by omega))
theorem cnt_pos {n i : Nat} {q : Nat → Bool} (hi : i < n) (h : q i = true) : 0 < cntN n q := by
  induction n with
  | zero => exact absurd hi (by omega)
  | succ n ih =>
    rw [cntN_succ]
    by_cases he : n = i
    · subst he; rw [if_pos h]; omega
    · have := ih (by omega); omega
end Go.Avm.Pack
namespace Go.Avm.Pack
open Go Go.Avm Go.Proofs
open Go.IntKind (i64 u64)
open Go.Avm.AV (int bool any fz fp sl ow ref fn ifc val agg tup)
open Go.Avm.AObj (cells dead)
open Go.Avm.Oc (ret)
set_option maxRecDepth 4000
def atN (all core : List Clause) (i : Nat) : Int := if i = 0 then -1 else idxFrom (eqC (core.getD (i - 1) default)) all 0
end Go.Avm.Pack
