/- PackLost returns true, and leaves its arguments as they were. No conditions: every input that can be read as data. -/
import Derived.Test.YthaoambmnjfdlaaDoorM4
namespace Go.Avm.Pack
open Go Go.Avm Go.Proofs
open Go.IntKind (i64 u64)
open Go.Avm.AV (int bool any fz fp sl ow ref fn ifc val agg tup)
open Go.Avm.AObj (cells dead)
open Go.Avm.Oc (ret)
set_option maxRecDepth 4000

def encLL (n : Nat) (l : Nat → List Nat) : AV := .fz .auto 1 n (fun i _ => .fz .auto 1 (l i).length (fun k _ => .int .i64 (((l i).getD k 0 : Nat) : Int)))
theorem below_packs {x : Ix} (j : Nat) {m : Nat} : Below m (nth [encPacks x] j) := match j with
  | 0 => trivial
  | _ + 1 => trivial
theorem below_one {i : Int} (j : Nat) {m : Nat} : Below m (nth [.int .i64 i] j) := match j with
  | 0 => trivial
  | _ + 1 => trivial
theorem contQ_blkN {P : Program} {R : Res} {nt k0 id : Nat} {r : Rd} {b : Code} {Q : AEx → St R.σ → Prop} {s : St R.σ} (h : Q .normal s) : contQ P R nt k0 r b Q [.blk id] .normal s := h
theorem contQ_blkE {P : Program} {R : Res} {nt k0 id j : Nat} {r : Rd} {b : Code} {Q : AEx → St R.σ → Prop} {s : St R.σ} (hj : Nat.beq j id = false) (h : Q (.exit j) s) : contQ P R nt k0 r b Q [.blk id] (.exit j) s := by
  show (bif Nat.beq j id then contQ P R nt k0 r b Q [] .normal s else contQ P R nt k0 r b Q [] (.exit j) s)
  rw [hj]
  exact h
def llC (l : Nat → List Nat) (i : Nat) : AV := .fz .auto 1 (l i).length (fun k _ => .int .i64 (((l i).getD k 0 : Nat) : Int))
theorem llC_append {l : Nat → List Nat} {i c : Nat} {z f : Nat → AV} (hc : c < (i + 1) * 1) (hf : f 0 = llC l i := by rfl) : llC l c = plainJ 1 i (fun a b => llC l (a * 1 + b)) (fun a b => over z 0 1 f (0 + a * 1 + b)) c := by
  unfold plainJ
  by_cases h : c < i * 1
  · rw [if_pos h]
    show _ = llC l (c / 1 * 1 + c % 1)
    rw [show c / 1 * 1 + c % 1 = c by omega]
  · rw [if_neg h]
    show _ = over z 0 1 f (0 + (c - i * 1) / 1 * 1 + (c - i * 1) % 1)
    have : c = i := by omega
    subst this
    rw [over_eq, show 0 + (c - c * 1) / 1 * 1 + (c - c * 1) % 1 = 0 by omega, if_pos (by omega)]
    exact hf.symm
theorem need_pack {x : Ix} (hx : formedB x = true) {i n : Nat} (hi : i < x.l.length) (hn : n < (x.l.getD i default).l.length) (r : Rng) (hr : r ∈ ((x.l.getD i default).l.getD n default).needs.l) : 0 ≤ r.pack ∧ r.pack < x.l.length := by
  have e := formed_rel hx hi hn
  unfold relB at e
  simp only [Bool.and_eq_true] at e
  have := List.all_eq_true.1 e.1.2 r hr
  unfold otherB at this
  simp only [Bool.and_eq_true] at this
  exact ranged_pack this.1
theorem trim_raw (R : Res) [Tab LT R] (x : Ix) (g : R.σ) (hs : small x) (hx : formedB x = true) : Does Tryd.prog R 9 [encIx x] [] g (.ret (.tup 2 (nth [encLL x.l.length (fun i => memS (trimL x i)), .int .i64 0]))) [] g := by
  classical
  obtain ⟨gl, hgl⟩ : ∃ gl : KL Rng, gl = nilR := ⟨_, rfl⟩
  have h8 := (formed_le hx).2
  refine spec_of_wp (nt := 84) (rs := [.tmp 2, .tmp 3]) (k0 := 0) (by kernel_rfl) (by kernel_rfl) (by kernel_rfl) rfl ?_
  refine vcQ [] (lkL [(0, [1]), (1, [1, 4]), (2, [1, 4, 17]), (3, [2, 3]), (4, [1, 4, 5]), (5, [1, 4, 5, 19, 20, 21])]) (lkL [(1, [(1, ROrc.kop (encMkt x gl)), (3, ROrc.val (Orc.obj (nth [encPacks x, encR gl])))]), (2, [(1, ROrc.pcall (AV.bool true))])]) (fun (Q : AEx → St R.σ → Prop) => 1 ≤ 1 ∧ OpOk Tryd.prog R (Oper.mk (some 14) (Op.build 74 #[(0, Operand.tmp 13), (1, Operand.const (Value.slice none 0 0))]) 74 "pack.go:193" #[Edge.mk 0 Ground.data] none) (evO [Row.mk (some 13) none (encIx x) false (some []) [0]] [(1, ref 0 0)] []) [cells false 1 (nth [encPacks x])] g (encMkt x gl) [cells false 1 (nth [encPacks x])] g ∧ 2 ≤ 2 ∧ (∀ (c : Nat), c < 2 → nth [encPacks x, encR gl] c = over (nth [fz Fz.nil 0 0 fun (x x_1 : Nat) => any, fz Fz.nil 0 0 fun (x x_1 : Nat) => any]) 0 2 (List.brecOn (motive := fun (x : List AV) => Nat → AV) [encPacks x, encR gl] nth._f) c) ∧ 2 ≤ 2 ∧ (∀ (hp : List AObj) (g : R.σ), true = true ∧ Does Tryd.prog R 37 [encMkt x gl] hp g (ret (AV.bool true)) hp g) ∧ (false = true → Q AEx.ret (St.mk [(2, fz Fz.nil 0 0 fun (x x_2 : Nat) => any), (3, int i64 2)] [cells false 1 (nth [encPacks x]), cells false 2 (nth [encPacks x, encR gl])] g)) ∧ (false = false → 1 ≤ 1 ∧ Wp Tryd.prog R 84 0 Rd.top (bodyOf Tryd.prog 9) [1, 1, 1, 1, 0, 1, 0] (contQ Tryd.prog R 84 0 Rd.top (bodyOf Tryd.prog 9) Q [Kont.blk 0, Kont.seq [1, 1, 1, 1, 1]]) (St.mk [(1, ref 0 0), (4, ref 1 0), (5, ref 2 0), (19, encPacks x), (20, int i64 (↑(List.length x.l) : Int)), (21, int i64 0)] [cells false 1 (nth [encPacks x]), cells false 2 (nth [encPacks x, encR gl]), cells false 8 (nth [int u64 0, int u64 0, int u64 0, int u64 0, int u64 0, int u64 0, int u64 0, int u64 0])] g))) (fun _ => by kernel_rfl) ⟨(by omega), ⟨?_, ⟨(by omega), ⟨(fun c hc => match c, hc with | 0, _ => (by kernel_rfl) | 1, _ => (by kernel_rfl) ), ⟨(by omega), ⟨(fun _ _ => ⟨rfl, (does_bool hx (Go.Avm.Pack.c_formed _ _ _ _ _ (by omega)))⟩), ⟨fun h => (nomatch h), fun _ => ⟨(by omega), ?_⟩⟩⟩⟩⟩⟩⟩⟩
  · refine opOk_le (out := ⟨.agg 2 (nth [encPacks x, .fz .nil 0 0 (fun _ _ => .any)]), [.cells false 1 (nth [encPacks x])], [], .pure⟩) (by kernel_rfl) trivial (Le.agg fun j hj => ?_)
    subst hgl
    match j, hj with
    | 0, _ => exact Le.refl _
    | 1, _ => exact Le.nil
  · refine (wp_loop (by kernel_rfl) (fun (i : Nat) => ⟨[(1, ref 0 0), (4, ref 1 0), (5, ref 2 0), (19, encPacks x), (20, int i64 (↑(List.length x.l) : Int)), (21, .int .i64 i)], [.cells false 1 (nth [encPacks x]), .cells false 2 (nth [encPacks x, encR gl]), .cells false 8 (fun j => .int .u64 (fullN x i j))], g⟩) (fun (i : Nat) => (i ≤ x.l.length)) (fun (i : Nat) => (x.l.length - i)) 0 (to_le ⟨(Le.refl _), ⟨(Le.refl _), ⟨(Le.refl _), ⟨(Le.refl _), ⟨(Le.refl _), ⟨(Le.of_eq (by kernel_rfl)), trivial⟩⟩⟩⟩⟩⟩ ⟨LeO.rflc, ⟨LeO.rflc, ⟨⟨rfl, Nat.le_refl _, fun j hj => match j, hj with | 0, _ => (Le.of_eq (by kernel_rfl)) | 1, _ => (Le.of_eq (by kernel_rfl)) | 2, _ => (Le.of_eq (by kernel_rfl)) | 3, _ => (Le.of_eq (by kernel_rfl)) | 4, _ => (Le.of_eq (by kernel_rfl)) | 5, _ => (Le.of_eq (by kernel_rfl)) | 6, _ => (Le.of_eq (by kernel_rfl)) | 7, _ => (Le.of_eq (by kernel_rfl)) ⟩, trivial⟩⟩⟩ rfl) ?_ (fun i hi => ?_))
    · omega
    · refine vcQ [] (lkL [(6, [1, 4, 5, 19, 20, 21, 22]), (7, [1, 4, 5, 6, 7, 19, 20, 21]), (8, [1, 4, 5, 19, 20, 21]), (9, [1, 4, 5, 19, 20, 21])]) (fun _ => []) (fun (Q : AEx → St R.σ → Prop) => (decide ((↑i : Int) < (↑(List.length x.l) : Int)) = true → (0 ≤ (↑i : Int) ∧ (↑i : Int) < (↑(List.length x.l) : Int)) ∧ 1 ≤ 1 ∧ 0 ≤ (↑(List.length (List.getD x.l i default).l) : Int) ∧ (0 ≤ (↑i : Int) ∧ (↑i : Int) < (↑8 : Int)) ∧ i + 1 ≤ 8 ∧ (-9223372036854775808 ≤ (↑i : Int) + 1 ∧ (↑i : Int) + 1 ≤ 9223372036854775807) ∧ Q AEx.normal (St.mk [(1, ref 0 0), (4, ref 1 0), (5, ref 2 0), (19, encPacks x), (20, int i64 (↑(List.length x.l) : Int)), (21, int i64 ((↑i : Int) + 1))] [cells false 1 (nth [encPacks x]), cells false 2 (nth [encPacks x, encR gl]), cells false 8 (over (fun (j : Nat) => int u64 (↑(fullN x i j) : Int)) i 1 fun (x_2 : Nat) => int u64 (IntKind.wrap u64 (IntKind.wrap u64 (1 * 2 ^ min (List.length (List.getD x.l i default).l) 64) - 1)))] g)) ∧ (decide ((↑i : Int) < (↑(List.length x.l) : Int)) = false → Q (AEx.exit 0) (St.mk [(1, ref 0 0), (4, ref 1 0), (5, ref 2 0), (19, encPacks x), (20, int i64 (↑(List.length x.l) : Int)), (21, int i64 (↑i : Int)), (22, AV.bool (decide ((↑i : Int) < (↑(List.length x.l) : Int))))] [cells false 1 (nth [encPacks x]), cells false 2 (nth [encPacks x, encR gl]), cells false 8 fun (j : Nat) => int u64 (↑(fullN x i j) : Int)] g))) (fun _ => by kernel_rfl) ⟨fun c1 => have c1 : (↑i : Int) < (↑(List.length x.l) : Int) := (of_decide_eq_true c1); ⟨(by omega), ⟨(by omega), ⟨(by omega), ⟨(by omega), ⟨(by omega), ⟨(by omega), ?_⟩⟩⟩⟩⟩⟩, fun c1 => have c1 : ¬(↑i : Int) < (↑(List.length x.l) : Int) := (of_decide_eq_false c1); ?_⟩
      · refine (next_round (i + 1) (to_le ⟨(Le.refl _), ⟨(Le.refl _), ⟨(Le.refl _), ⟨(Le.refl _), ⟨(Le.refl _), ⟨(Le.of_eq (by kernel_rfl)), trivial⟩⟩⟩⟩⟩⟩ ⟨LeO.rflc, ⟨LeO.rflc, ⟨(LeO.cells (fun j hj => ?_)), trivial⟩⟩⟩ rfl) ?_ ?_)
        · rw [over_eq]
          by_cases h : j = i
          · subst h
            rw [if_pos (by omega)]
            refine (fullU _ (formed_five hx (by omega))).trans ?_
            show AV.int .u64 _ = AV.int .u64 _
            unfold fullN
            rw [if_pos (by omega)]
          · rw [if_neg (by omega)]
            show AV.int .u64 _ = AV.int .u64 _
            unfold fullN
            by_cases h2 : j < i
            · rw [if_pos h2, if_pos (by omega)]
            · rw [if_neg h2, if_neg (by omega)]
        · omega
        · omega
      · have : i = x.l.length := by omega
        subst this
        refine ⟨_, To.refl _, vcQ [] (lkL []) (fun _ => []) (fun (Q : AEx → St R.σ → Prop) => Wp Tryd.prog R 84 0 Rd.top (bodyOf Tryd.prog 9) [1, 1, 1, 1, 1, 0, 0] (contQ Tryd.prog R 84 0 Rd.top (bodyOf Tryd.prog 9) Q [Kont.blk 2, Kont.seq [1, 1, 1, 1, 1, 1]]) (St.mk [(1, ref 0 0), (4, ref 1 0), (5, ref 2 0), (19, encPacks x), (20, int i64 (↑(List.length x.l) : Int)), (21, int i64 (↑(List.length x.l) : Int)), (22, AV.bool (decide ((↑(List.length x.l) : Int) < (↑(List.length x.l) : Int))))] [cells false 1 (nth [encPacks x]), cells false 2 (nth [encPacks x, encR gl]), cells false 8 fun (j : Nat) => int u64 (↑(fullN x (List.length x.l) j) : Int)] g)) (fun _ => by kernel_rfl) (?_)⟩
        refine (wp_loop (by kernel_rfl) (fun (y : Nat) => ⟨[(1, ref 0 0), (4, ref 1 0), (5, ref 2 0), (19, .any), (20, .any), (21, .any), (22, .any)], [.cells false 1 (nth [encPacks x]), .cells false 2 (nth [encPacks x, encR gl]), .cells false 8 (fun j => .int .u64 (trimN x y j))], g⟩) (fun (y : Nat) => (y ≤ trimY x)) (fun (y : Nat) => (trimY x - y)) 0 (to_le ⟨(Le.refl _), ⟨(Le.refl _), ⟨(Le.refl _), ⟨(Le.any _), ⟨(Le.any _), ⟨(Le.any _), ⟨(Le.any _), trivial⟩⟩⟩⟩⟩⟩⟩ ⟨LeO.rflc, ⟨LeO.rflc, ⟨LeO.rflc, trivial⟩⟩⟩ rfl) ?_ (fun y hi => ?_))
        · omega
        · have hy := hi
          obtain ⟨B, hB⟩ : ∃ B, trimN x y = B := ⟨_, rfl⟩
          have hBs : setsL x B := by rw [← hB]; exact sets_trim hx y
          simp only [hB]
          refine vcQ [] (lkL [(10, [1, 4, 5, 8]), (11, [1, 4, 5, 8, 36, 37])]) (lkL [(10, [(2, ROrc.val (Orc.obj fun (j : Nat) => int u64 (↑(B j) : Int)))])]) (fun (Q : AEx → St R.σ → Prop) => 8 ≤ 8 ∧ 8 ≤ 8 ∧ (∀ (c : Nat), c < 8 → int u64 (↑(B c) : Int) = over (nth [int u64 0, int u64 0, int u64 0, int u64 0, int u64 0, int u64 0, int u64 0, int u64 0]) 0 8 (fun (j : Nat) => int u64 (↑(B j) : Int)) c) ∧ 1 ≤ 1 ∧ Wp Tryd.prog R 84 0 Rd.top (bodyOf Tryd.prog 9) [1, 1, 1, 1, 1, 0, 0, 0, 0, 1, 0, 1, 0] (contQ Tryd.prog R 84 0 Rd.top (bodyOf Tryd.prog 9) Q [Kont.blk 4, Kont.seq [1, 1, 1, 1, 1, 0, 0, 0, 0, 1, 1], Kont.blk 3]) (St.mk [(1, ref 0 0), (4, ref 1 0), (5, ref 2 0), (8, ref 3 0), (36, int i64 (↑(List.length x.l) : Int)), (37, int i64 0)] [cells false 1 (nth [encPacks x]), cells false 2 (nth [encPacks x, encR gl]), cells false 8 fun (j : Nat) => int u64 (↑(B j) : Int), cells false 8 fun (j : Nat) => int u64 (↑(B j) : Int)] g)) (fun _ => by kernel_rfl) ⟨(by omega), ⟨(by omega), ⟨(fun c hc => match c, hc with | 0, _ => (by kernel_rfl) | 1, _ => (by kernel_rfl) | 2, _ => (by kernel_rfl) | 3, _ => (by kernel_rfl) | 4, _ => (by kernel_rfl) | 5, _ => (by kernel_rfl) | 6, _ => (by kernel_rfl) | 7, _ => (by kernel_rfl) ), ⟨(by omega), ?_⟩⟩⟩⟩
          refine (wp_loop (by kernel_rfl) (fun (i : Nat) => ⟨[(1, ref 0 0), (4, ref 1 0), (5, ref 2 0), (8, ref 3 0), (36, int i64 (↑(List.length x.l) : Int)), (37, .int .i64 i)], [.cells false 1 (nth [encPacks x]), .cells false 2 (nth [encPacks x, encR gl]), .cells false 8 (fun j => .int .u64 (roundN x B i j)), .cells false 8 (fun j => .int .u64 (B j))], g⟩) (fun (i : Nat) => (i ≤ x.l.length)) (fun (i : Nat) => (x.l.length - i)) 0 (to_le ⟨(Le.refl _), ⟨(Le.refl _), ⟨(Le.refl _), ⟨(Le.refl _), ⟨(Le.refl _), ⟨(Le.of_eq (by kernel_rfl)), trivial⟩⟩⟩⟩⟩⟩ ⟨LeO.rflc, ⟨LeO.rflc, ⟨LeO.rflc, ⟨LeO.rflc, trivial⟩⟩⟩⟩ rfl) ?_ (fun i hi => ?_))
          · omega
          · have hi' := hi
            refine vcQ [] (lkL [(12, [1, 4, 5, 8, 36, 37, 38]), (13, [1, 4, 5, 8, 9, 36, 37]), (14, [1, 4, 5, 8, 9, 36, 37, 43])]) (lkL [(13, [(2, ROrc.val (Orc.obj (nth [int i64 (↑i : Int)])))]), (14, [(3, ROrc.call (fn 75 0 (nth []) 1 (nth [ref (List.length [cells false 1 (nth [encPacks x]), cells false 2 (nth [encPacks x, encR gl]), cells false 8 fun (j : Nat) => int u64 (↑(roundN x B i j) : Int), cells false 8 fun (j : Nat) => int u64 (↑(B j) : Int), cells false 1 (nth [int i64 (↑i : Int)])]) 0])) ([cells false 1 (nth [encPacks x]), cells false 2 (nth [encPacks x, encR gl]), cells false 8 fun (j : Nat) => int u64 (↑(roundN x B i j) : Int), cells false 8 fun (j : Nat) => int u64 (↑(B j) : Int), cells false 1 (nth [int i64 (↑i : Int)])] ++ [cells false 1 fun (x : Nat) => int u64 (↑(B i) : Int)]) g)])]) (fun (Q : AEx → St R.σ → Prop) => (decide ((↑i : Int) < (↑(List.length x.l) : Int)) = true → 1 ≤ 1 ∧ (∀ (c : Nat), c < 1 → nth [int i64 (↑i : Int)] c = over (fun (a : Nat) => int i64 0) 0 1 (fun (x : Nat) => int i64 (↑i : Int)) c) ∧ 1 ≤ 1 ∧ (0 ≤ (↑i : Int) ∧ (↑i : Int) < (↑8 : Int)) ∧ i + 1 ≤ 8 ∧ (true = true ∧ Does Tryd.prog R 38 [int u64 (↑(B i) : Int)] [cells false 1 (nth [encPacks x]), cells false 2 (nth [encPacks x, encR gl]), cells false 8 fun (j : Nat) => int u64 (↑(roundN x B i j) : Int), cells false 8 fun (j : Nat) => int u64 (↑(B j) : Int), cells false 1 (nth [int i64 (↑i : Int)])] g (ret (fn 75 0 (nth []) 1 (nth [ref 5 0]))) [cells false 1 (nth [encPacks x]), cells false 2 (nth [encPacks x, encR gl]), cells false 8 fun (j : Nat) => int u64 (↑(roundN x B i j) : Int), cells false 8 fun (j : Nat) => int u64 (↑(B j) : Int), cells false 1 (nth [int i64 (↑i : Int)]), cells false 1 fun (x : Nat) => int u64 (↑(B i) : Int)] g) ∧ Wp Tryd.prog R 84 0 Rd.top (bodyOf Tryd.prog 9) [1, 1, 1, 1, 1, 0, 0, 0, 0, 1, 0, 1, 0, 0, 1, 1, 0, 0, 1, 1, 0] (contQ Tryd.prog R 84 0 Rd.top (bodyOf Tryd.prog 9) Q [Kont.blk 6, Kont.blk 5, Kont.seq [1, 1, 1, 1, 1, 0, 0, 0, 0, 1, 0, 1, 0, 0, 1, 1, 1]]) (St.mk [(1, ref 0 0), (4, ref 1 0), (5, ref 2 0), (8, ref 3 0), (9, ref 4 0), (36, int i64 (↑(List.length x.l) : Int)), (37, int i64 (↑i : Int)), (43, fn 75 0 (nth []) 1 (nth [ref 5 0]))] [cells false 1 (nth [encPacks x]), cells false 2 (nth [encPacks x, encR gl]), cells false 8 fun (j : Nat) => int u64 (↑(roundN x B i j) : Int), cells false 8 fun (j : Nat) => int u64 (↑(B j) : Int), cells false 1 (nth [int i64 (↑i : Int)]), cells false 1 fun (x : Nat) => int u64 (↑(B i) : Int)] g)) ∧ (decide ((↑i : Int) < (↑(List.length x.l) : Int)) = false → Q (AEx.exit 4) (St.mk [(1, ref 0 0), (4, ref 1 0), (5, ref 2 0), (8, ref 3 0), (36, int i64 (↑(List.length x.l) : Int)), (37, int i64 (↑i : Int)), (38, AV.bool (decide ((↑i : Int) < (↑(List.length x.l) : Int))))] [cells false 1 (nth [encPacks x]), cells false 2 (nth [encPacks x, encR gl]), cells false 8 fun (j : Nat) => int u64 (↑(roundN x B i j) : Int), cells false 8 fun (j : Nat) => int u64 (↑(B j) : Int)] g))) (fun _ => by kernel_rfl) ⟨fun c1 => have c1 : (↑i : Int) < (↑(List.length x.l) : Int) := (of_decide_eq_true c1); ⟨(by omega), ⟨(fun c hc => match c, hc with | 0, _ => (by kernel_rfl) ), ⟨(by omega), ⟨(by omega), ⟨(by omega), ⟨⟨rfl, (Go.Avm.Pack.c_members _ _ _ _)⟩, ?_⟩⟩⟩⟩⟩⟩, fun c1 => have c1 : ¬(↑i : Int) < (↑(List.length x.l) : Int) := (of_decide_eq_false c1); ?_⟩
            · obtain ⟨l, hl⟩ : ∃ l, memS (B i) = l := ⟨_, rfl⟩
              have hseq := seq_members (B i) (hBs i).1
              rw [hl] at hseq
              have hin := (hBs i).2.2
              rw [hl] at hin
              obtain ⟨M, hM⟩ : ∃ M : Nat → Nat → Nat, M = fun k => (l.take k).foldl (dropK x i) (roundN x B i) := ⟨_, rfl⟩
              have hM0 : roundN x B i = M 0 := by rw [hM]; rfl
              have hMs : ∀ k, setsL x (M k) := fun k => by rw [hM]; exact sets_fold _ _ (sets_round hBs i)
              have hMn : ∀ k, k < l.length → M (k + 1) = dropK x i (M k) (l.getD k 0) := fun k hk => by
                rw [hM]
                show (l.take (k + 1)).foldl (dropK x i) (roundN x B i) = dropK x i ((l.take k).foldl (dropK x i) (roundN x B i)) (l.getD k 0)
                rw [List.take_add_one, List.foldl_append, List.getD_eq_getElem?_getD, List.getElem?_eq_getElem hk]
                rfl
              have hMe : M l.length = roundN x B (i + 1) := by
                rw [hM]
                show (l.take l.length).foldl (dropK x i) (roundN x B i) = (memS (B i)).foldl (dropK x i) (roundN x B i)
                rw [List.take_length, hl]
              rw [hM0]
              refine wp_range1 43 [44] 5 (by kernel_rfl) rfl rfl rfl hseq (fun _ => rfl) (by kernel_rfl) (fun _ => ⟨trivial, trivial⟩)
                (fun _ => none) (fun _ => rfl)
                (fun k => [.cells false 1 (nth [encPacks x]), .cells false 2 (nth [encPacks x, encR gl]), .cells false 8 (fun j => .int .u64 (M k j)), .cells false 8 (fun j => .int .u64 (B j)), .cells false 1 (nth [.int .i64 i])])
                (fun _ => g) (to_hp rfl rfl) (fun _ => rfl) (by exact ⟨by omega, by omega, by omega, by omega, by omega, by omega, trivial⟩) (by exact ⟨fun j _ => below_packs j, fun j _ => below_mkt j, fun _ _ => trivial, fun _ _ => trivial, fun j _ => below_one j, trivial⟩) (by exact ⟨fun _ _ => trivial, trivial⟩) [1, 4, 5, 9] (by exact ⟨show 0 < 5 by omega, show 1 < 5 by omega, show 2 < 5 by omega, show 4 < 5 by omega, trivial⟩) (fun k l' hk hjk => ?_) (fun _ => ?_) (fun k hk hj hr => by cases hr) (fun k id hk hj hr => by cases hr)
              · refine vcQ [] (lkL [(15, [1, 4, 5, 8, 9, 10, 36, 37])]) (lkL [(15, [(1, ROrc.val (Orc.obj (nth [int i64 (↑(List.getD l k 0) : Int)])))])]) (fun (Q : AEx → St R.σ → Prop) => 1 ≤ 1 ∧ (∀ (c : Nat), c < 1 → nth [int i64 (↑(List.getD l k 0) : Int)] c = over (fun (a : Nat) => int i64 0) 0 1 (fun (x : Nat) => int i64 (↑(List.getD l k 0) : Int)) c) ∧ Q AEx.normal (St.mk [(1, ref 0 0), (4, ref 1 0), (5, ref 2 0), (8, any), (9, ref 4 0), (10, ref 5 0), (36, any), (37, any)] [cells false 1 (nth [encPacks x]), cells false 2 (nth [encPacks x, encR gl]), cells false 8 fun (j : Nat) => int u64 (↑(M k j) : Int), cells false 8 fun (j : Nat) => int u64 (↑(B j) : Int), cells false 1 (nth [int i64 (↑i : Int)]), cells false 1 (nth [int i64 (↑(List.getD l k 0) : Int)])] g)) (fun _ => by kernel_rfl) ⟨(by omega), ⟨(fun c hc => match c, hc with | 0, _ => (by kernel_rfl) ), ?_⟩⟩
                show Wp _ _ _ 6 _ _ _ _ _
                obtain ⟨n, hn⟩ : ∃ n, l.getD k 0 = n := ⟨_, rfl⟩
                have hnlt : n < (x.l.getD i default).l.length := by rw [← hn]; exact hin _ (getD_mem _ _ hk)
                have hn5 : n < 5 := by have := formed_five hx (show i < x.l.length by omega); omega
                have hMk := hMs k
                have hMk' := hMn k hk
                rw [hn] at hMk'
                simp only [hn]
                have e := rel_len hx (i := i) (k := n) (by omega) (by rw [Int.toNat_natCast]; omega)
                simp only [Int.toNat_natCast] at e
                refine vcQ [] (lkL [(16, [1, 4, 5, 8, 9, 10, 36, 37, 56]), (17, [1, 4, 5, 8, 36, 37])]) (lkL [(16, [(10, ROrc.kcall (AV.bool (List.all (List.getD (List.getD x.l i default).l n default).needs.l (needB x (M k) (↑i : Int) (↑n : Int)))))])]) (fun (Q : AEx → St R.σ → Prop) => Tables.follows Tryd.prog.toTables Departure.mixedOrders = true ∧ 1 ≤ 1 ∧ 1 ≤ 1 ∧ (0 ≤ (↑i : Int) ∧ (↑i : Int) < (↑(List.length x.l) : Int)) ∧ 1 ≤ 1 ∧ 1 ≤ 1 ∧ (0 ≤ (↑n : Int) ∧ (↑n : Int) < (↑(List.length (List.getD x.l i default).l) : Int)) ∧ 1 ≤ 2 ∧ (true = true ∧ Does Tryd.prog R 39 [encR (List.getD (List.getD x.l i default).l n default).needs, fn 40 0 (nth []) 4 (nth [ref 2 0, ref 1 0, ref 4 0, ref 5 0])] [cells false 1 (nth [encPacks x]), cells false 2 (nth [encPacks x, encR gl]), cells false 8 fun (j : Nat) => int u64 (↑(M k j) : Int), cells false 8 fun (j : Nat) => int u64 (↑(B j) : Int), cells false 1 (nth [int i64 (↑i : Int)]), cells false 1 (nth [int i64 (↑n : Int)])] g (ret (AV.bool (List.all (List.getD (List.getD x.l i default).l n default).needs.l (needB x (M k) (↑i : Int) (↑n : Int))))) [cells false 1 (nth [encPacks x]), cells false 2 (nth [encPacks x, encR gl]), cells false 8 fun (j : Nat) => int u64 (↑(M k j) : Int), cells false 8 fun (j : Nat) => int u64 (↑(B j) : Int), cells false 1 (nth [int i64 (↑i : Int)]), cells false 1 (nth [int i64 (↑n : Int)])] g) ∧ ((!List.all (List.getD (List.getD x.l i default).l n default).needs.l (needB x (M k) (↑i : Int) (↑n : Int))) = true → Tables.follows Tryd.prog.toTables Departure.mixedOrders = true ∧ 1 ≤ 1 ∧ (0 ≤ (↑i : Int) ∧ (↑i : Int) < (↑8 : Int)) ∧ i + 1 ≤ 8 ∧ 1 ≤ 1 ∧ 0 ≤ (↑n : Int) ∧ (0 ≤ (↑i : Int) ∧ (↑i : Int) < (↑8 : Int)) ∧ i + 1 ≤ 8 ∧ Q AEx.normal (St.mk [(1, ref 0 0), (4, ref 1 0), (5, ref 2 0), (8, any), (36, any), (37, any)] [cells false 1 (nth [encPacks x]), cells false 2 (nth [encPacks x, encR gl]), cells false 8 (over (fun (j : Nat) => int u64 (↑(M k j) : Int)) i 1 fun (x : Nat) => int u64 (IntKind.wrap u64 (↑(BitVec.toNat (BitVec.ofInt 64 (↑(M k i) : Int) &&& ~~~BitVec.ofInt 64 (IntKind.wrap u64 (1 * 2 ^ min n 64)))) : Int))), cells false 8 fun (j : Nat) => int u64 (↑(B j) : Int), cells false 1 (nth [int i64 (↑i : Int)]), cells false 1 (nth [int i64 (↑n : Int)])] g)) ∧ ((!List.all (List.getD (List.getD x.l i default).l n default).needs.l (needB x (M k) (↑i : Int) (↑n : Int))) = false → Q AEx.normal (St.mk [(1, ref 0 0), (4, ref 1 0), (5, ref 2 0), (8, any), (9, ref 4 0), (10, ref 5 0), (36, any), (37, any), (56, AV.bool !List.all (List.getD (List.getD x.l i default).l n default).needs.l (needB x (M k) (↑i : Int) (↑n : Int)))] [cells false 1 (nth [encPacks x]), cells false 2 (nth [encPacks x, encR gl]), cells false 8 fun (j : Nat) => int u64 (↑(M k j) : Int), cells false 8 fun (j : Nat) => int u64 (↑(B j) : Int), cells false 1 (nth [int i64 (↑i : Int)]), cells false 1 (nth [int i64 (↑n : Int)])] g))) (fun _ => by kernel_rfl) ⟨(by kernel_rfl), ⟨(by omega), ⟨(by omega), ⟨(by omega), ⟨(by omega), ⟨(by omega), ⟨(by omega), ⟨(by omega), ⟨⟨rfl, (Go.Avm.Pack.c_everyF_PackRange _ _ _ _ _ _ _ _ _ _ (by omega) (by kernel_rfl) (fun r _ => (does_subT (T := LT) inferInstance [2, 1, 4, 5] 6 (fun R _ g => Go.Avm.Pack.c_Trim1 R (x) (gl) (M k) ((↑i : Int)) ((↑n : Int)) (r) g (by omega) (by omega) (by omega) (by simp at * <;> omega) ?_) rfl rfl rfl (by exact ⟨⟨rfl, Nat.le_refl _, fun j hj => match j, hj with | 0, _ => (Le.refl _) | 1, _ => (Le.refl _) | 2, _ => (Le.refl _) | 3, _ => (Le.refl _) | 4, _ => (Le.refl _) | 5, _ => (Le.refl _) | 6, _ => (Le.refl _) | 7, _ => (Le.refl _) ⟩, ⟨⟨rfl, Nat.le_refl _, fun j hj => match j, hj with | 0, _ => (Le.refl _) | 1, _ => (Le.refl _) ⟩, ⟨⟨rfl, Nat.le_refl _, fun j hj => match j, hj with | 0, _ => (Le.refl _) ⟩, ⟨⟨rfl, Nat.le_refl _, fun j hj => match j, hj with | 0, _ => (Le.refl _) ⟩, trivial⟩⟩⟩⟩) (by exact ⟨by omega, ⟨by omega, ⟨by omega, ⟨by omega, trivial⟩⟩⟩⟩) (by exact ⟨le_ren (by exact ⟨⟨⟨trivial, trivial⟩, trivial⟩, trivial⟩), ⟨(Le.refl _), ⟨(Le.refl _), ⟨(Le.refl _), ⟨(Le.refl _), trivial⟩⟩⟩⟩⟩) (by exact le_unren (by exact trivial)) (by exact ⟨LeO.rflc, ⟨⟨rfl, Nat.le_refl _, fun j hj => match j, hj with | 0, _ => (Le.refl _) | 1, _ => (Le.refl _) ⟩, ⟨⟨rfl, Nat.le_refl _, fun j hj => match j, hj with | 0, _ => (Le.refl _) | 1, _ => (Le.refl _) | 2, _ => (Le.refl _) | 3, _ => (Le.refl _) | 4, _ => (Le.refl _) | 5, _ => (Le.refl _) | 6, _ => (Le.refl _) | 7, _ => (Le.refl _) ⟩, ⟨LeO.rflc, ⟨⟨rfl, Nat.le_refl _, fun j hj => match j, hj with | 0, _ => (Le.refl _) ⟩, ⟨⟨rfl, Nat.le_refl _, fun j hj => match j, hj with | 0, _ => (Le.refl _) ⟩, trivial⟩⟩⟩⟩⟩⟩))))⟩, ⟨fun c1 => have c1 : List.all (List.getD (List.getD x.l i default).l n default).needs.l (needB x (M k) (↑i : Int) (↑n : Int)) = false := ((Bool.not_eq_true' _).mp c1); ⟨(by kernel_rfl), ⟨(by omega), ⟨(by omega), ⟨(by omega), ⟨(by omega), ⟨(by omega), ⟨(by omega), ⟨(by omega), ?_⟩⟩⟩⟩⟩⟩⟩⟩, fun c1 => have c1 : List.all (List.getD (List.getD x.l i default).l n default).needs.l (needB x (M k) (↑i : Int) (↑n : Int)) = true := ((Bool.not_eq_false' _).mp c1); ?_⟩⟩⟩⟩⟩⟩⟩⟩⟩⟩
                · exact need_pack hx (show i < x.l.length by omega) hnlt _ (by assumption)
                · have e2 : M (k + 1) = updN (M k) i (clrS (M k i) n) := by rw [hMk']; unfold dropK; rw [c1]; rfl
                  rw [e2]
                  refine (rnd_next rfl (to_sel [0, 1, 2, 3, 4] 6 rfl rfl rfl rfl rfl trivial ⟨⟨rfl, Nat.le_refl _, fun j hj => match j, hj with | 0, _ => (Le.refl _) ⟩, ⟨⟨rfl, Nat.le_refl _, fun j hj => match j, hj with | 0, _ => (Le.refl _) | 1, _ => (Le.refl _) ⟩, ⟨(LeO.cells (fun j hj => ?_)), ⟨⟨rfl, Nat.le_refl _, fun j hj => match j, hj with | 0, _ => (Le.refl _) | 1, _ => (Le.refl _) | 2, _ => (Le.refl _) | 3, _ => (Le.refl _) | 4, _ => (Le.refl _) | 5, _ => (Le.refl _) | 6, _ => (Le.refl _) | 7, _ => (Le.refl _) ⟩, ⟨⟨rfl, Nat.le_refl _, fun j hj => match j, hj with | 0, _ => (Le.refl _) ⟩, trivial⟩⟩⟩⟩⟩))
                  rw [over_eq]
                  by_cases h : j = i
                  · subst h
                    rw [if_pos (by omega)]
                    refine (clrU (M k j) n (hMk j).1 hn5).trans ?_
                    show AV.int .u64 _ = AV.int .u64 _
                    unfold updN
                    rw [if_pos rfl]
                  · rw [if_neg (by omega)]
                    show AV.int .u64 _ = AV.int .u64 _
                    unfold updN
                    rw [if_neg h]
                · have e2 : M (k + 1) = M k := by rw [hMk']; unfold dropK; rw [if_pos c1]
                  rw [e2]
                  refine (rnd_next rfl (to_sel [0, 1, 2, 3, 4] 6 rfl rfl rfl rfl rfl trivial ⟨⟨rfl, Nat.le_refl _, fun j hj => match j, hj with | 0, _ => (Le.refl _) ⟩, ⟨⟨rfl, Nat.le_refl _, fun j hj => match j, hj with | 0, _ => (Le.refl _) | 1, _ => (Le.refl _) ⟩, ⟨⟨rfl, Nat.le_refl _, fun j hj => match j, hj with | 0, _ => (Le.refl _) | 1, _ => (Le.refl _) | 2, _ => (Le.refl _) | 3, _ => (Le.refl _) | 4, _ => (Le.refl _) | 5, _ => (Le.refl _) | 6, _ => (Le.refl _) | 7, _ => (Le.refl _) ⟩, ⟨⟨rfl, Nat.le_refl _, fun j hj => match j, hj with | 0, _ => (Le.refl _) | 1, _ => (Le.refl _) | 2, _ => (Le.refl _) | 3, _ => (Le.refl _) | 4, _ => (Le.refl _) | 5, _ => (Le.refl _) | 6, _ => (Le.refl _) | 7, _ => (Le.refl _) ⟩, ⟨⟨rfl, Nat.le_refl _, fun j hj => match j, hj with | 0, _ => (Le.refl _) ⟩, trivial⟩⟩⟩⟩⟩))
              · have e1 := hMe
                refine vcQ [] (lkL [(18, [1, 4, 5, 8, 36, 37])]) (fun _ => []) (fun (Q : AEx → St R.σ → Prop) => (-9223372036854775808 ≤ (↑i : Int) + 1 ∧ (↑i : Int) + 1 ≤ 9223372036854775807) ∧ Q AEx.normal (St.mk [(1, ref 0 0), (4, ref 1 0), (5, ref 2 0), (8, ref 3 0), (36, int i64 (↑(List.length x.l) : Int)), (37, int i64 ((↑i : Int) + 1))] [cells false 1 (nth [encPacks x]), cells false 2 (nth [encPacks x, encR gl]), cells false 8 fun (j : Nat) => int u64 (↑(M (List.length l) j) : Int), cells false 8 fun (j : Nat) => int u64 (↑(B j) : Int), cells false 1 (nth [int i64 (↑i : Int)]), dead] g)) (fun _ => by kernel_rfl) ⟨(by omega), ?_⟩
                refine (next_round (i + 1) (to_sel [0, 1, 2, 3] 6 rfl rfl rfl rfl rfl ⟨(Le.refl _), ⟨(Le.refl _), ⟨(Le.refl _), ⟨(Le.refl _), ⟨(Le.refl _), ⟨(Le.refl _), trivial⟩⟩⟩⟩⟩⟩ ⟨⟨rfl, Nat.le_refl _, fun j hj => match j, hj with | 0, _ => (Le.refl _) ⟩, ⟨⟨rfl, Nat.le_refl _, fun j hj => match j, hj with | 0, _ => (Le.refl _) | 1, _ => (Le.refl _) ⟩, ⟨(LeO.cells (fun j hj => ?_)), ⟨⟨rfl, Nat.le_refl _, fun j hj => match j, hj with | 0, _ => (Le.refl _) | 1, _ => (Le.refl _) | 2, _ => (Le.refl _) | 3, _ => (Le.refl _) | 4, _ => (Le.refl _) | 5, _ => (Le.refl _) | 6, _ => (Le.refl _) | 7, _ => (Le.refl _) ⟩, trivial⟩⟩⟩⟩) ?_ ?_)
                · show AV.int .u64 _ = AV.int .u64 _
                  rw [e1]
                · omega
                · omega
            · have : i = x.l.length := by omega
              subst this
              refine ⟨_, To.refl _, vcQ [] (lkL [(19, [1, 4, 5, 67])]) (lkL [(19, [(2, ROrc.kop (AV.bool (decide (∀ (j : Nat), j < 8 → (↑(roundN x B (List.length x.l) j) : Int) = (↑(B j) : Int)))))])]) (fun (Q : AEx → St R.σ → Prop) => 8 ≤ 8 ∧ 8 ≤ 8 ∧ OpOk Tryd.prog R (Oper.mk (some 67) (Op.binOp BinOp.eql 76 (Operand.tmp 65) (Operand.tmp 66) 76) 4 "pack.go:217" #[Edge.mk 0 Ground.data, Edge.mk 1 Ground.data] none) (evO [Row.mk (some 66) none (agg 8 fun (j : Nat) => int u64 (↑(B j) : Int)) false (some []) [3], Row.mk (some 65) none (agg 8 fun (j : Nat) => int u64 (↑(roundN x B (List.length x.l) j) : Int)) false (some []) [2]] [(1, ref 0 0), (4, ref 1 0), (5, ref 2 0), (8, ref 3 0), (36, int i64 (↑(List.length x.l) : Int)), (37, int i64 (↑(List.length x.l) : Int)), (38, AV.bool (decide ((↑(List.length x.l) : Int) < (↑(List.length x.l) : Int))))] []) [cells false 1 (nth [encPacks x]), cells false 2 (nth [encPacks x, encR gl]), cells false 8 fun (j : Nat) => int u64 (↑(roundN x B (List.length x.l) j) : Int), cells false 8 fun (j : Nat) => int u64 (↑(B j) : Int)] g (AV.bool (decide (∀ (j : Nat), j < 8 → (↑(roundN x B (List.length x.l) j) : Int) = (↑(B j) : Int)))) [cells false 1 (nth [encPacks x]), cells false 2 (nth [encPacks x, encR gl]), cells false 8 fun (j : Nat) => int u64 (↑(roundN x B (List.length x.l) j) : Int), cells false 8 fun (j : Nat) => int u64 (↑(B j) : Int)] g ∧ (decide (∀ (j : Nat), j < 8 → (↑(roundN x B (List.length x.l) j) : Int) = (↑(B j) : Int)) = true → Q (AEx.exit 2) (St.mk [(1, ref 0 0), (4, ref 1 0), (5, ref 2 0), (67, AV.bool (decide (∀ (j : Nat), j < 8 → (↑(roundN x B (List.length x.l) j) : Int) = (↑(B j) : Int))))] [cells false 1 (nth [encPacks x]), cells false 2 (nth [encPacks x, encR gl]), cells false 8 fun (j : Nat) => int u64 (↑(roundN x B (List.length x.l) j) : Int), cells false 8 fun (j : Nat) => int u64 (↑(B j) : Int)] g)) ∧ (decide (∀ (j : Nat), j < 8 → (↑(roundN x B (List.length x.l) j) : Int) = (↑(B j) : Int)) = false → Q AEx.normal (St.mk [(1, ref 0 0), (4, ref 1 0), (5, ref 2 0), (67, AV.bool (decide (∀ (j : Nat), j < 8 → (↑(roundN x B (List.length x.l) j) : Int) = (↑(B j) : Int))))] [cells false 1 (nth [encPacks x]), cells false 2 (nth [encPacks x, encR gl]), cells false 8 fun (j : Nat) => int u64 (↑(roundN x B (List.length x.l) j) : Int), cells false 8 fun (j : Nat) => int u64 (↑(B j) : Int)] g))) (fun _ => by kernel_rfl) ⟨(by omega), ⟨(by omega), ⟨?_, ⟨fun c1 => have c1 : ∀ (j : Nat), j < 8 → (↑(roundN x B (List.length x.l) j) : Int) = (↑(B j) : Int) := (of_decide_eq_true c1); ?_, fun c1 => have c1 : ¬∀ (j : Nat), j < 8 → (↑(roundN x B (List.length x.l) j) : Int) = (↑(B j) : Int) := (of_decide_eq_false c1); ?_⟩⟩⟩⟩⟩
              · exact opOk_eqArr rfl rfl rfl Tryd.underlying76 Tryd.underlying75 (by kernel_rfl) (by kernel_rfl) (by kernel_rfl)
              · have e3 : roundN x B x.l.length = B := funext fun j => by
                  rcases Nat.lt_or_ge j 8 with hj | hj
                  · have := c1 j hj; omega
                  · have h1 := ((sets_round hBs x.l.length) j).2.1 (by omega)
                    have h2 := (hBs j).2.1 (by omega)
                    omega
                have e4 : B = trimL x := by
                  have hfix := (trimY_fix hx).2
                  have hyY : y = trimY x := by
                    refine Nat.le_antisymm hy (Nat.le_of_not_lt fun hlt => hfix y hlt ?_)
                    show roundN x (trimN x y) x.l.length = trimN x y
                    rw [hB]; exact e3
                  rw [← hB, hyY]; rfl
                have hLs : setsL x (trimL x) := by rw [← e4]; exact hBs
                rw [e3, e4]
                refine contQ_blkE (by kernel_rfl) ?_
                refine ⟨_, To.refl _, vcQ [] (lkL [(20, [1, 5, 11]), (21, [5, 11, 70, 71])]) (fun _ => []) (fun (Q : AEx → St R.σ → Prop) => 1 ≤ 1 ∧ Wp Tryd.prog R 84 0 Rd.top (bodyOf Tryd.prog 9) [1, 1, 1, 1, 1, 1, 1, 0, 1, 0] (contQ Tryd.prog R 84 0 Rd.top (bodyOf Tryd.prog 9) Q [Kont.blk 8, Kont.seq [1, 1, 1, 1, 1, 1, 1, 1]]) (St.mk [(5, ref 2 0), (11, fz Fz.nil 0 0 fun (x x_1 : Nat) => any), (70, int i64 (↑(List.length x.l) : Int)), (71, int i64 0)] [cells false 1 (nth [encPacks x]), cells false 2 (nth [encPacks x, encR gl]), cells false 8 fun (j : Nat) => int u64 (↑(trimL x j) : Int), cells false 8 fun (j : Nat) => int u64 (↑(trimL x j) : Int)] g)) (fun _ => by kernel_rfl) ⟨(by omega), ?_⟩⟩
                refine (wp_loop (by kernel_rfl) (fun (i : Nat) => ⟨[(5, ref 2 0), (11, .ow true 4 i 1), (70, int i64 (↑(List.length x.l) : Int)), (71, .int .i64 i)], [.cells false 1 (nth [encPacks x]), .cells false 2 (nth [encPacks x, encR gl]), .cells false 8 (fun j => .int .u64 (trimL x j)), .cells false 8 (fun j => .int .u64 (trimL x j)), .cells false (i * 1) (llC (fun i => memS (trimL x i)))], g⟩) (fun (i : Nat) => (i ≤ x.l.length)) (fun (i : Nat) => (x.l.length - i)) 0 (To.trans (to_ghost (fun _ => .any)) (to_le ⟨(Le.refl _), ⟨Le.nil_ow, ⟨(Le.refl _), ⟨(Le.of_eq (by kernel_rfl)), trivial⟩⟩⟩⟩ ⟨LeO.rflc, ⟨LeO.rflc, ⟨LeO.rflc, ⟨LeO.rflc, ⟨⟨rfl, Nat.le_refl _, fun j hj => absurd hj (by omega)⟩, trivial⟩⟩⟩⟩⟩ rfl)) ?_ (fun i hi => ?_))
                · exact Nat.zero_le _
                · have hi3 := hi
                  have hs32 := (hLs i).1
                  refine vcQ [] (lkL [(22, [5, 11, 70, 71, 72]), (23, [5, 11, 12, 70, 71]), (24, [5, 11, 70, 71]), (25, [5, 11, 70, 71])]) (lkL [(24, [(4, ROrc.call (fn 75 0 (nth []) 1 (nth [ref (List.length [cells false 1 (nth [encPacks x]), cells false 2 (nth [encPacks x, encR gl]), cells false 8 fun (j : Nat) => int u64 (↑(trimL x j) : Int), cells false 8 fun (j : Nat) => int u64 (↑(trimL x j) : Int), cells false (i * 1) fun (i : Nat) => fz Fz.auto 1 (List.length (memS (trimL x i))) fun (k x_1 : Nat) => int i64 (↑(List.getD (memS (trimL x i)) k 0) : Int)]) 0])) ([cells false 1 (nth [encPacks x]), cells false 2 (nth [encPacks x, encR gl]), cells false 8 fun (j : Nat) => int u64 (↑(trimL x j) : Int), cells false 8 fun (j : Nat) => int u64 (↑(trimL x j) : Int), cells false (i * 1) fun (i : Nat) => fz Fz.auto 1 (List.length (memS (trimL x i))) fun (k x_1 : Nat) => int i64 (↑(List.getD (memS (trimL x i)) k 0) : Int)] ++ [cells false 1 fun (x_1 : Nat) => int u64 (↑(trimL x i) : Int)]) g), (5, ROrc.call (fz Fz.auto 1 (List.length (memS (trimL x i))) fun (i_1 x_1 : Nat) => int i64 (↑(List.getD (memS (trimL x i)) i_1 0) : Int)) [cells false 1 (nth [encPacks x]), cells false 2 (nth [encPacks x, encR gl]), cells false 8 fun (j : Nat) => int u64 (↑(trimL x j) : Int), cells false 8 fun (j : Nat) => int u64 (↑(trimL x j) : Int), cells false (i * 1) fun (i : Nat) => fz Fz.auto 1 (List.length (memS (trimL x i))) fun (k x_1 : Nat) => int i64 (↑(List.getD (memS (trimL x i)) k 0) : Int), cells false 1 fun (j : Nat) => any] g), (7, ROrc.val (Orc.obj (llC fun (i : Nat) => memS (trimL x i))))])]) (fun (Q : AEx → St R.σ → Prop) => (decide ((↑i : Int) < (↑(List.length x.l) : Int)) = true → (0 ≤ (↑i : Int) ∧ (↑i : Int) < (↑8 : Int)) ∧ i + 1 ≤ 8 ∧ (true = true ∧ Does Tryd.prog R 38 [int u64 (↑(trimL x i) : Int)] [cells false 1 (nth [encPacks x]), cells false 2 (nth [encPacks x, encR gl]), cells false 8 fun (j : Nat) => int u64 (↑(trimL x j) : Int), cells false 8 fun (j : Nat) => int u64 (↑(trimL x j) : Int), cells false (i * 1) fun (i : Nat) => fz Fz.auto 1 (List.length (memS (trimL x i))) fun (k x_2 : Nat) => int i64 (↑(List.getD (memS (trimL x i)) k 0) : Int)] g (ret (fn 75 0 (nth []) 1 (nth [ref 5 0]))) [cells false 1 (nth [encPacks x]), cells false 2 (nth [encPacks x, encR gl]), cells false 8 fun (j : Nat) => int u64 (↑(trimL x j) : Int), cells false 8 fun (j : Nat) => int u64 (↑(trimL x j) : Int), cells false (i * 1) fun (i : Nat) => fz Fz.auto 1 (List.length (memS (trimL x i))) fun (k x_2 : Nat) => int i64 (↑(List.getD (memS (trimL x i)) k 0) : Int), cells false 1 fun (x_2 : Nat) => int u64 (↑(trimL x i) : Int)] g) ∧ (true = true ∧ Does Tryd.prog R 43 [fn 75 0 (nth []) 1 (nth [ref 5 0])] [cells false 1 (nth [encPacks x]), cells false 2 (nth [encPacks x, encR gl]), cells false 8 fun (j : Nat) => int u64 (↑(trimL x j) : Int), cells false 8 fun (j : Nat) => int u64 (↑(trimL x j) : Int), cells false (i * 1) fun (i : Nat) => fz Fz.auto 1 (List.length (memS (trimL x i))) fun (k x_2 : Nat) => int i64 (↑(List.getD (memS (trimL x i)) k 0) : Int), cells false 1 fun (x_2 : Nat) => int u64 (↑(trimL x i) : Int)] g (ret (fz Fz.auto 1 (List.length (memS (trimL x i))) fun (i_1 x_2 : Nat) => int i64 (↑(List.getD (memS (trimL x i)) i_1 0) : Int))) [cells false 1 (nth [encPacks x]), cells false 2 (nth [encPacks x, encR gl]), cells false 8 fun (j : Nat) => int u64 (↑(trimL x j) : Int), cells false 8 fun (j : Nat) => int u64 (↑(trimL x j) : Int), cells false (i * 1) fun (i : Nat) => fz Fz.auto 1 (List.length (memS (trimL x i))) fun (k x_2 : Nat) => int i64 (↑(List.getD (memS (trimL x i)) k 0) : Int), cells false 1 fun (j : Nat) => any] g) ∧ 0 < 1 ∧ (i + 1) * 24 ≤ maxRoom ∧ i + 1 ≤ maxRoom ∧ 1 ≤ 1 ∧ i * 1 ≤ i * 1 ∧ (∀ (c : Nat), c < (i + 1) * 1 → (fz Fz.auto 1 (List.length (memS (trimL x c))) fun (k x_2 : Nat) => int i64 (↑(List.getD (memS (trimL x c)) k 0) : Int)) = plainJ 1 i (fun (i j : Nat) => fz Fz.auto 1 (List.length (memS (trimL x (i * 1 + j)))) fun (k x_2 : Nat) => int i64 (↑(List.getD (memS (trimL x (i * 1 + j))) k 0) : Int)) (fun (i_1 j : Nat) => over (fun (j : Nat) => fz Fz.nil 0 0 fun (x x_2 : Nat) => any) 0 1 (fun (x_2 : Nat) => fz Fz.auto 1 (List.length (memS (trimL x i))) fun (i_2 x_3 : Nat) => int i64 (↑(List.getD (memS (trimL x i)) i_2 0) : Int)) (0 + i_1 * 1 + j)) c) ∧ (-9223372036854775808 ≤ (↑i : Int) + 1 ∧ (↑i : Int) + 1 ≤ 9223372036854775807) ∧ Q AEx.normal (St.mk [(5, ref 2 0), (11, ow true 7 (i + 1) 1), (70, int i64 (↑(List.length x.l) : Int)), (71, int i64 ((↑i : Int) + 1))] [cells false 1 (nth [encPacks x]), cells false 2 (nth [encPacks x, encR gl]), cells false 8 fun (j : Nat) => int u64 (↑(trimL x j) : Int), cells false 8 fun (j : Nat) => int u64 (↑(trimL x j) : Int), dead, cells false 1 fun (j : Nat) => any, cells false 1 (over (fun (j : Nat) => fz Fz.nil 0 0 fun (x x_2 : Nat) => any) 0 1 fun (x_2 : Nat) => fz Fz.auto 1 (List.length (memS (trimL x i))) fun (i_1 x_3 : Nat) => int i64 (↑(List.getD (memS (trimL x i)) i_1 0) : Int)), cells false ((i + 1) * 1) fun (a : Nat) => fz Fz.auto 1 (List.length (memS (trimL x a))) fun (k x_2 : Nat) => int i64 (↑(List.getD (memS (trimL x a)) k 0) : Int)] g)) ∧ (decide ((↑i : Int) < (↑(List.length x.l) : Int)) = false → Q (AEx.exit 8) (St.mk [(5, ref 2 0), (11, ow true 4 i 1), (70, int i64 (↑(List.length x.l) : Int)), (71, int i64 (↑i : Int)), (72, AV.bool (decide ((↑i : Int) < (↑(List.length x.l) : Int))))] [cells false 1 (nth [encPacks x]), cells false 2 (nth [encPacks x, encR gl]), cells false 8 fun (j : Nat) => int u64 (↑(trimL x j) : Int), cells false 8 fun (j : Nat) => int u64 (↑(trimL x j) : Int), cells false (i * 1) fun (i : Nat) => fz Fz.auto 1 (List.length (memS (trimL x i))) fun (k x_2 : Nat) => int i64 (↑(List.getD (memS (trimL x i)) k 0) : Int)] g))) (fun _ => by kernel_rfl) ⟨fun c1 => have c1 : (↑i : Int) < (↑(List.length x.l) : Int) := (of_decide_eq_true c1); ⟨(by omega), ⟨(by omega), ⟨⟨rfl, (Go.Avm.Pack.c_members _ _ _ _)⟩, ⟨⟨rfl, (does_subT (T := LT) inferInstance [5] 6 (fun R _ g => Go.Avm.Pack.c_Collect R (trimL x i) (by omega) g) rfl rfl rfl (by exact ⟨⟨rfl, Nat.le_refl _, fun j hj => match j, hj with | 0, _ => (Le.refl _) ⟩, trivial⟩) (by exact ⟨by omega, trivial⟩) (by exact ⟨(Le.fn (fun i hi => absurd hi (by omega)) (fun i hi => match i, hi with | 0, _ => (Le.refl _) )), trivial⟩) (by exact le_unren (by exact trivial)) (by exact ⟨LeO.rflc, ⟨LeO.rflc, ⟨LeO.rflc, ⟨LeO.rflc, ⟨LeO.rflc, ⟨LeO.rflc, trivial⟩⟩⟩⟩⟩⟩))⟩, ⟨(by omega), ⟨?_, ⟨?_, ⟨(by omega), ⟨(by omega), ⟨?_, ⟨(by omega), ?_⟩⟩⟩⟩⟩⟩⟩⟩⟩⟩⟩, fun c1 => have c1 : ¬(↑i : Int) < (↑(List.length x.l) : Int) := (of_decide_eq_false c1); ?_⟩
                  · unfold maxRoom; omega
                  · unfold maxRoom; omega
                  · intro c hc
                    exact llC_append (l := fun i => memS (trimL x i)) hc
                  · refine (next_round (i + 1) (to_sel [0, 1, 2, 3, 7] 8 rfl rfl rfl rfl rfl ⟨(Le.refl _), ⟨(Le.refl _), ⟨(Le.refl _), ⟨(Le.refl _), trivial⟩⟩⟩⟩ ⟨⟨rfl, Nat.le_refl _, fun j hj => match j, hj with | 0, _ => (Le.refl _) ⟩, ⟨⟨rfl, Nat.le_refl _, fun j hj => match j, hj with | 0, _ => (Le.refl _) | 1, _ => (Le.refl _) ⟩, ⟨⟨rfl, Nat.le_refl _, fun j hj => match j, hj with | 0, _ => (Le.refl _) | 1, _ => (Le.refl _) | 2, _ => (Le.refl _) | 3, _ => (Le.refl _) | 4, _ => (Le.refl _) | 5, _ => (Le.refl _) | 6, _ => (Le.refl _) | 7, _ => (Le.refl _) ⟩, ⟨⟨rfl, Nat.le_refl _, fun j hj => match j, hj with | 0, _ => (Le.refl _) | 1, _ => (Le.refl _) | 2, _ => (Le.refl _) | 3, _ => (Le.refl _) | 4, _ => (Le.refl _) | 5, _ => (Le.refl _) | 6, _ => (Le.refl _) | 7, _ => (Le.refl _) ⟩, ⟨?_, trivial⟩⟩⟩⟩⟩) ?_ ?_)
                    · exact LeO.refl _
                    · omega
                    · omega
                  · have : i = x.l.length := by omega
                    subst this
                    refine ⟨_, To.refl _, vcQ [] (lkL [(26, [2, 3])]) (fun _ => []) (fun (Q : AEx → St R.σ → Prop) => Q AEx.ret (St.mk [(2, ow true 4 (List.length x.l) 1), (3, int i64 0)] [cells false 1 (nth [encPacks x]), cells false 2 (nth [encPacks x, encR gl]), cells false 8 fun (j : Nat) => int u64 (↑(trimL x j) : Int), cells false 8 fun (j : Nat) => int u64 (↑(trimL x j) : Int), cells false (List.length x.l * 1) fun (i : Nat) => fz Fz.auto 1 (List.length (memS (trimL x i))) fun (k x_2 : Nat) => int i64 (↑(List.getD (memS (trimL x i)) k 0) : Int)] g)) (fun _ => by kernel_rfl) (?_)⟩
                    refine (retQ_le (retQ_frz 0 [4] _ _ rfl trivial (by omega) (by exact ⟨(fun _ _ => trivial), ⟨⟨⟨trivial, Nat.le_refl _⟩, trivial⟩, trivial⟩⟩) (by exact ⟨⟨trivial, trivial⟩, trivial⟩) (by exact trivial) (by kernel_rfl) rfl rfl) (Le.tup (fun j hj => match j, hj with | 0, _ => (leK_ok rfl (fun i j hi hj => ?_)) | 1, _ => (Le.of_eq (by kernel_rfl)) )))
                    show llC (fun i => memS (trimL x i)) (i * 1 + j) = llC (fun i => memS (trimL x i)) i
                    rw [show i * 1 + j = i by omega]
              · have hlt : y < trimY x := by
                  refine Nat.lt_of_le_of_ne hy (fun e => c1 fun j _ => ?_)
                  have h := congrFun ((trimY_fix hx).1) j
                  rw [← e] at h
                  have h : roundN x (trimN x y) x.l.length j = trimN x y j := h
                  rw [hB] at h
                  rw [h]
                refine contQ_blkN ?_
                refine (next_round (y + 1) (to_sel [0, 1, 2] 4 rfl rfl rfl rfl rfl ⟨(Le.refl _), ⟨(Le.refl _), ⟨(Le.refl _), ⟨Le.any _, ⟨Le.any _, ⟨Le.any _, ⟨Le.any _, trivial⟩⟩⟩⟩⟩⟩⟩ ⟨⟨rfl, Nat.le_refl _, fun j hj => match j, hj with | 0, _ => (Le.refl _) ⟩, ⟨⟨rfl, Nat.le_refl _, fun j hj => match j, hj with | 0, _ => (Le.refl _) | 1, _ => (Le.refl _) ⟩, ⟨(LeO.cells (fun j hj => ?_)), trivial⟩⟩⟩) ?_ ?_)
                · show AV.int .u64 _ = AV.int .u64 _
                  rw [show trimN x (y + 1) = roundN x (trimN x y) x.l.length from rfl, hB]
                · omega
                · omega
end Go.Avm.Pack
namespace Go.Avm.Pack
open Go Go.Avm Go.Proofs
open Go.IntKind (i64 u64)
open Go.Avm.AV (int bool any fz fp sl ow ref fn ifc val agg tup)
open Go.Avm.AObj (cells dead)
open Go.Avm.Oc (ret)
set_option maxRecDepth 4000

def closedL (x : Ix) (S : Nat → Nat) : Prop := ∀ i k, i < x.l.length → k ∈ memS (S i) → ((x.l.getD i default).l.getD k default).needs.l.all (needB x S i k) = true
def subL (S L : Nat → Nat) : Prop := ∀ j n, n ∈ memS (S j) → n ∈ memS (L j)
theorem needB_mono {x : Ix} {S L : Nat → Nat} (h : subL S L) {i k : Int} {r : Rng} (hn : needB x S i k r = true) : needB x L i k r = true := by
  unfold needB at hn ⊢
  rw [List.any_eq_true] at hn ⊢
  obtain ⟨n, h1, h2⟩ := hn
  exact ⟨n, h _ _ h1, h2⟩
theorem all_mono {α : Type} {l : List α} {p q : α → Bool} (h : ∀ a, p a = true → q a = true) (hp : l.all p = true) : l.all q = true := by
  rw [List.all_eq_true] at hp ⊢
  exact fun a ha => h a (hp a ha)
theorem drop_max {x : Ix} {S L : Nat → Nat} {i k : Nat} (hi : i < x.l.length) (hS : closedL x S) (hL : setsL x L) (h : subL S L) : subL S (dropK x i L k) := by
  intro j n hn
  unfold dropK
  split
  · exact h j n hn
  · rename_i hno
    unfold updN
    split
    · rename_i e
      subst e
      refine (clr_mem (hL j).1).2 ⟨h _ _ hn, fun e => hno ?_⟩
      subst e
      exact all_mono (fun r hr => needB_mono h hr) (hS j n hi hn)
    · exact h j n hn
theorem fold_max {x : Ix} {S : Nat → Nat} {i : Nat} (hi : i < x.l.length) (hS : closedL x S) : ∀ (l : List Nat) (L : Nat → Nat), setsL x L → subL S L → subL S (l.foldl (dropK x i) L)
  | [], _, _, h => h
  | k :: r, _, hL, h => fold_max hi hS r _ (sets_drop hL i k) (drop_max hi hS hL h)
theorem round_max {x : Ix} {S B : Nat → Nat} (hS : closedL x S) (hB : setsL x B) (h : subL S B) : ∀ i, i ≤ x.l.length → subL S (roundN x B i)
  | 0, _ => h
  | i + 1, hi => fold_max (by omega) hS _ _ (sets_round hB i) (round_max hS hB h i (by omega))
theorem trim_max {x : Ix} {S : Nat → Nat} (hx : formedB x = true) (hS : closedL x S) (h : subL S (fullN x x.l.length)) : ∀ y, subL S (trimN x y)
  | 0 => h
  | y + 1 => round_max hS (sets_trim hx y) (trim_max hx hS h y) _ (Nat.le_refl _)
theorem fold_fix {x : Ix} {i : Nat} {B : Nat → Nat} : ∀ (l : List Nat), l.foldl (dropK x i) B = B → ∀ k, k ∈ l → dropK x i B k = B
  | [], _, k, hk => by simp at hk
  | a :: r, h, k, hk => by
    have h' : r.foldl (dropK x i) (dropK x i B a) = B := h
    have ha : dropK x i B a = B := funext fun j => by
      have h1 := fold_le r (dropK x i B a) (x := x) (i := i) j
      rw [h'] at h1
      have h2 := drop_le x i B a j
      omega
    rw [ha] at h'
    rcases List.mem_cons.1 hk with rfl | hk
    · exact ha
    · exact fold_fix r h' k hk
theorem round_fix {x : Ix} {B : Nat → Nat} : ∀ n, roundN x B n = B → ∀ i, i < n → dropI x B B i = B
  | 0, _, i, hi => by omega
  | n + 1, h, i, hi => by
    have h' : dropI x B (roundN x B n) n = B := h
    have hn : roundN x B n = B := funext fun j => by
      have h1 : dropI x B (roundN x B n) n j ≤ roundN x B n j := fold_le _ _ j
      rw [h'] at h1
      have h2 := round_le x B n j
      omega
    rcases Nat.lt_or_ge i n with hin | hin
    · exact round_fix n hn i hin
    · have : i = n := by omega
      subst this
      rw [hn] at h'
      exact h'
theorem trim_closed {x : Ix} (hx : formedB x = true) : closedL x (trimL x) := by
  intro i k hi hk
  have hfix := (trimY_fix hx).1
  have h1 : roundN x (trimL x) x.l.length = trimL x := hfix
  have h2 := fold_fix _ (round_fix _ h1 i hi) k hk
  have hs := sets_trim hx (trimY x)
  cases hc : ((x.l.getD i default).l.getD k default).needs.l.all (needB x (trimL x) i k) with
  | true => rfl
  | false =>
    exfalso
    have h3 := congrFun h2 i
    unfold dropK at h3
    rw [hc] at h3
    have h3 : clrS (trimL x i) k = trimL x i := by simpa [updN] using h3
    have h4 := (clr_mem (n := k) (k := k) (hs i).1).1 (by
      show k ∈ memS (clrS (trimL x i) k)
      rw [h3]; exact hk)
    exact h4.2 rfl
theorem trim_sets {x : Ix} (hx : formedB x = true) : setsL x (trimL x) := sets_trim hx _
theorem full_mem {x : Ix} (hx : formedB x = true) {i k : Nat} (hi : i < x.l.length) (hk : k < (x.l.getD i default).l.length) : k ∈ memS (fullN x x.l.length i) := by
  have h5 := formed_five hx hi
  unfold fullN
  rw [if_pos hi]
  rw [mem_memS]
  refine ⟨by omega, ?_⟩
  rw [Nat.testBit_two_pow_sub_one]
  exact decide_eq_true hk
def setOf (p : Nat → Bool) : Nat := (if p 0 then 1 else 0) + (if p 1 then 2 else 0) + (if p 2 then 4 else 0) + (if p 3 then 8 else 0) + (if p 4 then 16 else 0)
theorem setOf_mem (p : Nat → Bool) (n : Nat) : n ∈ memS (setOf p) ↔ n < 5 ∧ p n = true := by
  have h : ∀ a b c d e : Bool, (List.range 5).all (fun n => ((if a then 1 else 0) + (if b then 2 else 0) + (if c then 4 else 0) + (if d then 8 else 0) + (if e then 16 else 0) : Nat).testBit n == (match n with | 0 => a | 1 => b | 2 => c | 3 => d | _ => e)) = true := by decide
  rw [mem_memS]
  constructor
  · rintro ⟨h1, h2⟩
    have := eq_of_beq ((List.all_eq_true.1 (h (p 0) (p 1) (p 2) (p 3) (p 4))) n (by simpa using h1))
    refine ⟨h1, ?_⟩
    unfold setOf at h2
    rw [h2] at this
    match n, h1 with
    | 0, _ => exact this.symm
    | 1, _ => exact this.symm
    | 2, _ => exact this.symm
    | 3, _ => exact this.symm
    | 4, _ => exact this.symm
  · rintro ⟨h1, h2⟩
    have := eq_of_beq ((List.all_eq_true.1 (h (p 0) (p 1) (p 2) (p 3) (p 4))) n (by simpa using h1))
    refine ⟨h1, ?_⟩
    unfold setOf
    rw [this]
    match n, h1 with
    | 0, _ => exact h2
    | 1, _ => exact h2
    | 2, _ => exact h2
    | 3, _ => exact h2
    | 4, _ => exact h2
theorem trim_full {x : Ix} (hx : formedB x = true) {i k : Nat} (hi : i < x.l.length) (hk : k < (x.l.getD i default).l.length) (h : ((x.l.getD i default).l.getD k default).needs.l.all (needB x (trimL x) i k) = true) : k ∈ memS (trimL x i) := by
  have h5 := formed_five hx hi
  let S : Nat → Nat := fun j => setOf (fun n => (trimL x j).testBit n || (decide (j = i) && decide (n = k)))
  have hS : ∀ j n, n ∈ memS (S j) ↔ n ∈ memS (trimL x j) ∨ (j = i ∧ n = k) := fun j n => by
    show n ∈ memS (setOf _) ↔ _
    rw [setOf_mem, mem_memS]
    simp only [Bool.or_eq_true, Bool.and_eq_true, decide_eq_true_eq]
    constructor
    · rintro ⟨h1, h2 | h2⟩
      · exact .inl ⟨h1, h2⟩
      · exact .inr h2
    · rintro (⟨h1, h2⟩ | ⟨h1, h2⟩)
      · exact ⟨h1, .inl h2⟩
      · exact ⟨by omega, .inr ⟨h1, h2⟩⟩
  have hsub : subL (trimL x) S := fun j n hn => (hS j n).2 (.inl hn)
  have hcl : closedL x S := fun j n hj hn => by
    rcases (hS j n).1 hn with hn | ⟨rfl, rfl⟩
    · exact all_mono (fun r hr => needB_mono hsub hr) (trim_closed hx j n hj hn)
    · exact all_mono (fun r hr => needB_mono hsub hr) h
  have hfull : subL S (fullN x x.l.length) := fun j n hn => by
    rcases (hS j n).1 hn with hn | ⟨rfl, rfl⟩
    · have h1 := (trim_sets hx j).2.2 n hn
      have hj : j < x.l.length := by
        rcases Nat.lt_or_ge j x.l.length with h | h
        · exact h
        · rw [(trim_sets hx j).2.1 h] at hn; simp [memS] at hn
      exact full_mem hx hj h1
    · exact full_mem hx hi hk
  exact trim_max hx hcl hfull (trimY x) i k ((hS i k).2 (.inr ⟨rfl, rfl⟩))
end Go.Avm.Pack
namespace Go.Avm.Pack
open Go Go.Avm Go.Proofs
open Go.IntKind (i64 u64)
open Go.Avm.AV (int bool any fz fp sl ow ref fn ifc val agg tup)
open Go.Avm.AObj (cells dead)
open Go.Avm.Oc (ret)
set_option maxRecDepth 4000

theorem metB_iff {p : Nat → Int} {r : Rng} : metB p r = true ↔ r.low ≤ p r.pack.toNat ∧ p r.pack.toNat ≤ r.high := by
  unfold metB inR
  exact decide_eq_true_iff
theorem keeps_left {x : Ix} {gl : List Rng} {p : Nat → Int} (hx : formedB x = true) (hin : inP x p) (h : KeepsAll x gl p) {i : Nat} (hi : i < x.l.length) (hp : p i ≠ -1) : (p i).toNat ∈ memS (trimL x i) := by
  let S : Nat → Nat := fun j => if j < x.l.length then setOf (fun n => decide ((n : Int) = p j)) else 0
  have hS : ∀ j n, j < x.l.length → (n ∈ memS (S j) ↔ (n : Int) = p j) := fun j n hj => by
    show n ∈ memS (if j < x.l.length then _ else 0) ↔ _
    rw [if_pos hj, setOf_mem]
    simp only [decide_eq_true_eq]
    have h1 := (hin j hj).2
    have h5 := formed_five hx hj
    exact ⟨fun h => h.2, fun h => ⟨by omega, h⟩⟩
  have hcl : closedL x S := fun j k hj hk => by
    have hk := (hS j k hj).1 hk
    have hne : p j ≠ -1 := by omega
    have hrel : relOf x p j = (x.l.getD j default).l.getD k default := by rw [relOf_some hne]; congr 1; omega
    have hlow := formed_low hx hin hj
    rw [List.all_eq_true]
    intro r hr
    have hkl : k < (x.l.getD j default).l.length := by have := (hin j hj).2; omega
    have hpk := need_pack hx hj hkl r hr
    have hmet := metB_iff.1 (h.need j hj hne r (by rw [hrel]; exact hr))
    have hl0 := hlow.1 r (by rw [hrel]; exact hr)
    have hrp : r.pack.toNat < x.l.length := by omega
    have hne2 : p r.pack.toNat ≠ -1 := by omega
    unfold needB
    rw [List.any_eq_true]
    refine ⟨(p r.pack.toNat).toNat, (hS _ _ hrp).2 (by omega), ?_⟩
    have e1 : (((p r.pack.toNat).toNat : Nat) : Int) = p r.pack.toNat := by omega
    rw [e1]
    simp only [Bool.and_eq_true, decide_eq_true_eq, Bool.not_eq_true']
    refine ⟨⟨hmet, ?_⟩, ?_⟩
    · unfold barsB
      rw [List.any_eq_false]
      intro s hs
      have hb := h.bar j hj hne s (by rw [hrel]; simpa using hs)
      by_cases hsp : s.pack = r.pack
      · have : ¬ (s.low ≤ p s.pack.toNat ∧ p s.pack.toNat ≤ s.high) := fun h' => by
          rw [metB_iff.2 h'] at hb; cases hb
        rw [hsp] at this
        rw [decide_eq_true hsp, decide_eq_false this]
        simp
      · rw [decide_eq_false hsp]; simp
    · unfold barsB
      rw [List.any_eq_false]
      intro s hs
      have hb := h.bar r.pack.toNat hrp hne2 s (by rw [relOf_some hne2]; exact hs)
      by_cases hsp : s.pack = (j : Int)
      · have : ¬ (s.low ≤ p s.pack.toNat ∧ p s.pack.toNat ≤ s.high) := fun h' => by
          rw [metB_iff.2 h'] at hb; cases hb
        rw [hsp, Int.toNat_natCast, ← hk] at this
        rw [decide_eq_true hsp, decide_eq_false this]
        simp
      · rw [decide_eq_false hsp]; simp
  have hfull : subL S (fullN x x.l.length) := fun j n hn => by
    by_cases hj : j < x.l.length
    · have := (hS j n hj).1 hn
      exact full_mem hx hj (by have := (hin j hj).2; omega)
    · have hn : n ∈ memS (if j < x.l.length then _ else 0) := hn
      rw [if_neg hj] at hn
      simp [memS] at hn
  exact trim_max hx hcl hfull (trimY x) i _ ((hS i _ hi).2 (by have := (hin i hi).1; omega))
theorem best_lost {x : Ix} {i k : Nat} (hx : formedB x = true) (hi : i < x.l.length) (hk : k < (x.l.getD i default).l.length) (h : k ∉ memS (trimL x i)) : bestR x [⟨i, k, k⟩] = ([], 5) := by
  have hck : checkB x [⟨i, k, k⟩] = true := by
    unfold checkB rangedB rels
    simp only [hx, List.length_singleton, List.all_cons, List.all_nil, Bool.and_true, Bool.true_and, Bool.and_eq_true, decide_eq_true_eq, Int.toNat_natCast]
    omega
  have hone : (bestR x [⟨i, k, k⟩]).1 = [] := by
    rcases best_pick hck with ⟨h1, _⟩ | ⟨hq, _, hr, _⟩
    · exact h1
    · exfalso
      have hka := keepsAll_of hck hq (right_keeps hck hq hr)
      have hm := metB_iff.1 (hka.goal ⟨i, k, k⟩ (by simp))
      have hm : (k : Int) ≤ planOf (bestR x [⟨i, k, k⟩]).1 x.l.length (i : Int).toNat ∧ planOf (bestR x [⟨i, k, k⟩]).1 x.l.length (i : Int).toNat ≤ (k : Int) := hm
      rw [Int.toNat_natCast] at hm
      have hin : inP x (planOf (bestR x [⟨i, k, k⟩]).1 x.l.length) := fun j hj => by
        have := hq.2 j hj
        unfold planOf
        rw [if_pos hj]
        exact this
      have := keeps_left hx hin hka hi (by omega)
      have e : (planOf (bestR x [⟨i, k, k⟩]).1 x.l.length i).toNat = k := by omega
      rw [e] at this
      exact h this
  unfold bestR at hone ⊢
  rw [hck] at hone ⊢
  simp only [if_true] at hone ⊢
  rw [hone]
  rfl
theorem lacks_iff {x : Ix} {i k : Nat} (hx : formedB x = true) (hi : i < x.l.length) (hk : k < (x.l.getD i default).l.length) : ((x.l.getD i default).l.getD k default).needs.l.all (needB x (trimL x) i k) = true ↔ k ∈ memS (trimL x i) :=
  ⟨trim_full hx hi hk, trim_closed hx i k hi⟩
end Go.Avm.Pack
namespace Go.Avm.Pack
open Go Go.Avm Go.Proofs
open Go.IntKind (i64 u64)
open Go.Avm.AV (int bool any fz fp sl ow ref fn ifc val agg tup)
open Go.Avm.AObj (cells dead)
open Go.Avm.Oc (ret)
set_option maxRecDepth 4000

theorem c_IndexFunc_int (R : Res) (l : KL Int) (u : Value) (q : Int → Bool) (g : R.σ) (hl : l.l.length < 1000000)
    (hu : ∀ r, r ∈ l.l → ∀ hp, VDoes Tryd.prog R u [.int .i64 r] hp g (.ret (.bool (q r))) hp g) :
    Does Tryd.prog R 64 [encI l, .val u] [] g (.ret (.int .i64 (idxFrom q l.l 0))) [] g := by
  refine spec_of_wp (nt := 19) (rs := [.tmp 4]) (k0 := 0) (by kernel_rfl) (by kernel_rfl) (by kernel_rfl) rfl ?_
  refine vcQ [] (lkL [(0, [0, 1]), (1, [0, 1, 7, 8])]) (fun _ => []) (fun (Q : AEx → St R.σ → Prop) => Wp Tryd.prog R 19 0 Rd.top (bodyOf Tryd.prog 64) [1, 0, 1, 0] (contQ Tryd.prog R 19 0 Rd.top (bodyOf Tryd.prog 64) Q [Kont.blk 0, Kont.seq [1, 1]]) (St.mk [(0, encI l), (1, val u), (7, int i64 (↑(List.length l.l) : Int)), (8, int i64 0)] [] g)) (fun _ => by kernel_rfl) (?_)
  refine (wp_loop (by kernel_rfl) (fun (i : Nat) => ⟨[(0, encI l), (1, val u), (7, int i64 (↑(List.length l.l) : Int)), (8, .int .i64 (i : Int))], [], g⟩) (fun (i : Nat) => (i ≤ l.l.length ∧ idxFrom q l.l 0 = idxFrom q (l.l.drop i) i)) (fun (i : Nat) => (l.l.length - i)) 0 (to_fr ⟨(Le.refl _), ⟨(Le.refl _), ⟨(Le.refl _), ⟨(Le.of_eq (by kernel_rfl)), trivial⟩⟩⟩⟩ rfl rfl) ?_ (fun i hi => ?_))
  · exact ⟨Nat.zero_le _, rfl⟩
  · obtain ⟨h1, h2⟩ := hi
    refine vcQ [] (lkL [(2, [0, 1, 7, 8, 9]), (3, [0, 1, 5, 7, 8]), (4, [0, 1, 5, 7, 8, 16]), (5, [4]), (6, [0, 1, 7, 8])]) (lkL [(4, [(5, ROrc.kcall (AV.bool (q (List.getD l.l i 0))))])]) (fun (Q : AEx → St R.σ → Prop) => (decide ((↑i : Int) < (↑(List.length l.l) : Int)) = true → (0 ≤ (↑i : Int) ∧ (↑i : Int) < (↑(List.length l.l) : Int)) ∧ 1 ≤ 1 ∧ VDoes Tryd.prog R u [int i64 (List.getD l.l i 0)] [] g (ret (AV.bool (q (List.getD l.l i 0)))) [] g ∧ (q (List.getD l.l i 0) = true → Q AEx.ret (St.mk [(4, int i64 (↑i : Int))] [] g)) ∧ (q (List.getD l.l i 0) = false → (-9223372036854775808 ≤ (↑i : Int) + 1 ∧ (↑i : Int) + 1 ≤ 9223372036854775807) ∧ Q AEx.normal (St.mk [(0, encI l), (1, val u), (7, int i64 (↑(List.length l.l) : Int)), (8, int i64 ((↑i : Int) + 1))] [] g))) ∧ (decide ((↑i : Int) < (↑(List.length l.l) : Int)) = false → Q (AEx.exit 0) (St.mk [(0, encI l), (1, val u), (7, int i64 (↑(List.length l.l) : Int)), (8, int i64 (↑i : Int)), (9, AV.bool (decide ((↑i : Int) < (↑(List.length l.l) : Int))))] [] g))) (fun _ => by kernel_rfl) ⟨fun c1 => have c1 : (↑i : Int) < (↑(List.length l.l) : Int) := (of_decide_eq_true c1); ⟨(by omega), ⟨(by omega), ⟨(hu _ ?_ _), ⟨fun c2 => ?_, fun c2 => ⟨(by omega), ?_⟩⟩⟩⟩⟩, fun c1 => have c1 : ¬(↑i : Int) < (↑(List.length l.l) : Int) := (of_decide_eq_false c1); ?_⟩
    · exact getD_mem l.l 0 (by omega)
    · refine ⟨_, To.refl _, (retQ_le (retQ_same' _ _ rfl trivial rfl rfl rfl) (Le.of_eq ?_))⟩
      show (int i64 (↑i : Int)) = _
      show AV.int _ _ = AV.int _ _
      rw [h2, getD_drop l.l 0 (by omega)]; unfold idxFrom; rw [if_pos c2]
    · refine (next_round (i + 1) (to_fr ⟨(Le.refl _), ⟨(Le.refl _), ⟨(Le.refl _), ⟨(Le.of_eq (by kernel_rfl)), trivial⟩⟩⟩⟩ rfl rfl) ?_ ?_)
      · refine ⟨by omega, ?_⟩
        rw [h2, getD_drop l.l 0 (by omega)]; conv => lhs; unfold idxFrom
        rw [c2]; rfl
      · omega
    · refine ⟨_, To.refl _, vcQ [] (lkL [(7, [4])]) (fun _ => []) (fun (Q : AEx → St R.σ → Prop) => Q AEx.ret (St.mk [(4, int i64 (-1))] [] g)) (fun _ => by kernel_rfl) (?_)⟩
      refine (retQ_le (retQ_same' _ _ rfl trivial rfl rfl rfl) (Le.of_eq ?_))
      show (int i64 (-1)) = _
      show AV.int _ _ = AV.int _ _
      rw [h2, List.drop_eq_nil_of_le (by omega)]; rfl
theorem c_ContainsFunc_int (R : Res) (l : KL Int) (u : Value) (q : Int → Bool) (g : R.σ) (hl : l.l.length < 1000000)
    (hu : ∀ r, r ∈ l.l → ∀ hp, VDoes Tryd.prog R u [.int .i64 r] hp g (.ret (.bool (q r))) hp g) :
    Does Tryd.prog R 22 [encI l, .val u] [] g (.ret (.bool (l.l.any q))) [] g := by
  refine spec_of_wp (nt := 9) (rs := [.tmp 4]) (k0 := 0) (by kernel_rfl) (by kernel_rfl) (by kernel_rfl) rfl ?_
  refine vcQ [] (lkL [(0, [0, 1]), (1, [4])]) (lkL [(1, [(2, ROrc.kcall (int i64 (idxFrom q l.l 0)))])]) (fun (Q : AEx → St R.σ → Prop) => (true = true ∧ Does Tryd.prog R 64 [encI l, val u] [] g (ret (int i64 (idxFrom q l.l 0))) [] g) ∧ Q AEx.ret (St.mk [(4, AV.bool (decide (idxFrom q l.l 0 ≥ 0)))] [] g)) (fun _ => by kernel_rfl) ⟨⟨rfl, (Go.Avm.Pack.c_IndexFunc_int _ _ _ _ _ (by omega) (fun _ _ _ => hu _ (by omega) _))⟩, ?_⟩
  refine (retQ_le (retQ_same' _ _ rfl trivial rfl rfl rfl) (Le.of_eq ?_))
  show (AV.bool (decide (idxFrom q l.l 0 ≥ 0))) = _
  show AV.bool _ = AV.bool _
  rw [idxFrom_any]
theorem c_ContainsFuncF_int (R : Res) (l : KL Int) (f na nb : Nat) (a b : Nat → AV) (q : Int → Bool) (hp : List AObj) (g : R.σ) (hl : l.l.length < 1000000) (hpl : isPlain Tryd.prog f = true)
    (h : ∀ r, r ∈ l.l → Does Tryd.prog R f (tab na 0 a ++ [.int .i64 r] ++ tab nb 0 b) hp g (.ret (.bool (q r))) hp g) :
    Does Tryd.prog R 22 [encI l, .fn f na a nb b] hp g (.ret (.bool (l.l.any q))) hp g :=
  does_fn (pre := [encI l]) (D := fun r => r ∈ l.l) (args := fun r => [.int .i64 r]) (oc1 := fun r => .ret (.bool (q r))) ⟨trivial, trivial⟩ hpl (fun r => ⟨trivial, trivial⟩) (fun _ => trivial) h
    (fun R' g' u hu => c_ContainsFunc_int R' l u q g' hl hu)
def eqZ (c : Int) : Int → Bool := fun v => c == v
theorem c_Index_int (R : Res) (l : KL Int) (c : Int) (hp : List AObj) (g : R.σ) (hl : l.l.length < 1000000) : Does Tryd.prog R 67 [encI l, .int .i64 c] hp g (.ret (.int .i64 (idxFrom (eqZ c) l.l 0))) hp g := by
  refine does_any' (fun R g => ?_) (by exact ⟨trivial, ⟨trivial, trivial⟩⟩) R hp g
  refine spec_of_wp (nt := 19) (rs := [.tmp 4]) (k0 := 0) (by kernel_rfl) (by kernel_rfl) (by kernel_rfl) rfl ?_
  refine vcQ [] (lkL [(0, [0, 1]), (1, [0, 1, 7, 8])]) (fun _ => []) (fun (Q : AEx → St R.σ → Prop) => Wp Tryd.prog R 19 0 Rd.top (bodyOf Tryd.prog 67) [1, 0, 1, 0] (contQ Tryd.prog R 19 0 Rd.top (bodyOf Tryd.prog 67) Q [Kont.blk 0, Kont.seq [1, 1]]) (St.mk [(0, encI l), (1, int i64 c), (7, int i64 (↑(List.length l.l) : Int)), (8, int i64 0)] [] g)) (fun _ => by kernel_rfl) (?_)
  refine (wp_loop (by kernel_rfl) (fun (i : Nat) => ⟨[(0, encI l), (1, int i64 c), (7, int i64 (↑(List.length l.l) : Int)), (8, .int .i64 (i : Int))], [], g⟩) (fun (i : Nat) => (i ≤ l.l.length ∧ idxFrom (eqZ c) l.l 0 = idxFrom (eqZ c) (l.l.drop i) i)) (fun (i : Nat) => (l.l.length - i)) 0 (to_fr ⟨(Le.refl _), ⟨(Le.refl _), ⟨(Le.refl _), ⟨(Le.of_eq (by kernel_rfl)), trivial⟩⟩⟩⟩ rfl rfl) ?_ (fun i hi => ?_))
  · exact ⟨Nat.zero_le _, rfl⟩
  · obtain ⟨h1, h2⟩ := hi
    refine vcQ [] (lkL [(2, [0, 1, 7, 8, 9]), (3, [0, 1, 5, 7, 8]), (4, [0, 1, 5, 7, 8, 16]), (5, [4]), (6, [0, 1, 7, 8])]) (fun _ => []) (fun (Q : AEx → St R.σ → Prop) => (decide ((↑i : Int) < (↑(List.length l.l) : Int)) = true → (0 ≤ (↑i : Int) ∧ (↑i : Int) < (↑(List.length l.l) : Int)) ∧ 1 ≤ 1 ∧ ((c == List.getD l.l i 0) = true → Q AEx.ret (St.mk [(4, int i64 (↑i : Int))] [] g)) ∧ ((c == List.getD l.l i 0) = false → (-9223372036854775808 ≤ (↑i : Int) + 1 ∧ (↑i : Int) + 1 ≤ 9223372036854775807) ∧ Q AEx.normal (St.mk [(0, encI l), (1, int i64 c), (7, int i64 (↑(List.length l.l) : Int)), (8, int i64 ((↑i : Int) + 1))] [] g))) ∧ (decide ((↑i : Int) < (↑(List.length l.l) : Int)) = false → Q (AEx.exit 0) (St.mk [(0, encI l), (1, int i64 c), (7, int i64 (↑(List.length l.l) : Int)), (8, int i64 (↑i : Int)), (9, AV.bool (decide ((↑i : Int) < (↑(List.length l.l) : Int))))] [] g))) (fun _ => by kernel_rfl) ⟨fun c1 => have c1 : (↑i : Int) < (↑(List.length l.l) : Int) := (of_decide_eq_true c1); ⟨(by omega), ⟨(by omega), ⟨fun c2 => have c2 : c = List.getD l.l i 0 := (beq_iff_eq.mp c2); ?_, fun c2 => have c2 : ¬c = List.getD l.l i 0 := (beq_eq_false_iff_ne.mp c2); ⟨(by omega), ?_⟩⟩⟩⟩, fun c1 => have c1 : ¬(↑i : Int) < (↑(List.length l.l) : Int) := (of_decide_eq_false c1); ?_⟩
    · have c2 : eqZ c (l.l.getD i 0) = true := beq_iff_eq.2 c2
      refine ⟨_, To.refl _, (retQ_le (retQ_same' _ _ rfl trivial rfl rfl rfl) (Le.of_eq ?_))⟩
      show (int i64 (↑i : Int)) = _
      congr 1
      rw [h2, getD_drop l.l 0 (by omega)]; unfold idxFrom; rw [if_pos c2]
    · have c2 : eqZ c (l.l.getD i 0) = false := beq_eq_false_iff_ne.2 c2
      refine (next_round (i + 1) (to_fr ⟨(Le.refl _), ⟨(Le.refl _), ⟨(Le.refl _), ⟨(Le.of_eq (by kernel_rfl)), trivial⟩⟩⟩⟩ rfl rfl) ?_ ?_)
      · refine ⟨by omega, ?_⟩
        rw [h2, getD_drop l.l 0 (by omega)]; conv => lhs; unfold idxFrom
        rw [c2]; rfl
      · omega
    · refine ⟨_, To.refl _, vcQ [] (lkL [(7, [4])]) (fun _ => []) (fun (Q : AEx → St R.σ → Prop) => Q AEx.ret (St.mk [(4, int i64 (-1))] [] g)) (fun _ => by kernel_rfl) (?_)⟩
      refine (retQ_le (retQ_same' _ _ rfl trivial rfl rfl rfl) (Le.of_eq ?_))
      show (int i64 (-1)) = _
      congr 1
      rw [h2, List.drop_eq_nil_of_le (by omega)]; rfl
theorem c_Contains_int (R : Res) (l : KL Int) (c : Int) (hp : List AObj) (g : R.σ) (hl : l.l.length < 1000000) : Does Tryd.prog R 28 [encI l, .int .i64 c] hp g (.ret (.bool (l.l.any (eqZ c)))) hp g := by
  refine does_any' (fun R g => ?_) (by exact ⟨trivial, ⟨trivial, trivial⟩⟩) R hp g
  refine spec_of_wp (nt := 9) (rs := [.tmp 4]) (k0 := 0) (by kernel_rfl) (by kernel_rfl) (by kernel_rfl) rfl ?_
  refine vcQ [] (lkL [(0, [0, 1]), (1, [4])]) (lkL [(1, [(2, ROrc.pcall (int i64 (idxFrom (eqZ c) l.l 0)))])]) (fun (Q : AEx → St R.σ → Prop) => (∀ (hp : List AObj) (g : R.σ), true = true ∧ Does Tryd.prog R 67 [encI l, int i64 c] hp g (ret (int i64 (idxFrom (eqZ c) l.l 0))) hp g) ∧ Q AEx.ret (St.mk [(4, AV.bool (decide (idxFrom (eqZ c) l.l 0 ≥ 0)))] [] g)) (fun _ => by kernel_rfl) ⟨(fun _ _ => ⟨rfl, (Go.Avm.Pack.c_Index_int _ _ _ _ _ (by omega))⟩), ?_⟩
  refine (retQ_le (retQ_same' _ _ rfl trivial rfl rfl rfl) (Le.of_eq ?_))
  show (AV.bool (decide (idxFrom (eqZ c) l.l 0 ≥ 0))) = _
  congr 1
  exact idxFrom_any _ _ _
noncomputable def leftI (x : Ix) (i : Nat) : KL Int := ⟨(memS (trimL x i)).map fun (n : Nat) => (n : Int), .auto⟩
def encLs (n : Nat) (q : Nat → KL Int) : AV := .fz .auto 1 n (fun i _ => encI (q i))
theorem leftI_enc (x : Ix) (i : Nat) : encI (leftI x i) = .fz .auto 1 (memS (trimL x i)).length (fun k _ => .int .i64 (((memS (trimL x i)).getD k 0 : Nat) : Int)) := by
  unfold encI leftI
  have e1 : ((memS (trimL x i)).map fun (n : Nat) => (n : Int)).length = (memS (trimL x i)).length := List.length_map _
  have e2 : ∀ k, ((memS (trimL x i)).map fun (n : Nat) => (n : Int)).getD k 0 = (((memS (trimL x i)).getD k 0 : Nat) : Int) := fun k => by
    rw [List.getD_eq_getElem?_getD, List.getElem?_map, List.getD_eq_getElem?_getD]
    cases (memS (trimL x i))[k]? <;> rfl
  simp only [e1, e2]
theorem c_TrimL (R : Res) [Tab LT R] (x : Ix) (L : Nat → KL Int) (hp : List AObj) (g : R.σ) (hs : small x) (hx : formedB x = true) (hL : L = leftI x) : Does Tryd.prog R 9 [encIx x] hp g (.ret (.tup 2 (nth [encLs x.l.length L, .int .i64 0]))) hp g := by
  subst hL
  refine does_anyT' (T := LT) inferInstance (fun R _ g => ?_) (by exact ⟨⟨trivial, trivial⟩, trivial⟩) hp g
  have h := trim_raw R x g hs hx
  have e : encLL x.l.length (fun i => memS (trimL x i)) = encLs x.l.length (leftI x) := by
    unfold encLL encLs
    congr 1
    funext i _
    exact (leftI_enc x i).symm
  rw [e] at h
  exact h
theorem c_isNaN (R : Res) (v : Int) (hp : List AObj) (g : R.σ) : Does Tryd.prog R 91 [.int .i64 v] hp g (.ret (.bool false)) hp g := by
  refine does_any' (fun R g => ?_) (by exact ⟨trivial, trivial⟩) R hp g
  refine spec_of_wp (nt := 6) (rs := [.tmp 2]) (k0 := 0) (by kernel_rfl) (by kernel_rfl) (by kernel_rfl) rfl ?_
  refine vcQ [] (lkL [(0, [0]), (1, [2])]) (fun _ => []) (fun (Q : AEx → St R.σ → Prop) => Q AEx.ret (St.mk [(2, AV.bool (v != v))] [] g)) (fun _ => by kernel_rfl) (?_)
  refine (retQ_le (retQ_same' _ _ rfl trivial rfl rfl rfl) (Le.of_eq ?_))
  show (AV.bool (v != v)) = _
  show AV.bool _ = AV.bool _
  simp
theorem c_Less (R : Res) (a b : Int) (hp : List AObj) (g : R.σ) : Does Tryd.prog R 63 [.int .i64 a, .int .i64 b] hp g (.ret (.bool (decide (a < b)))) hp g := by
  refine does_any' (fun R g => ?_) (by exact ⟨trivial, ⟨trivial, trivial⟩⟩) R hp g
  refine spec_of_wp (nt := 17) (rs := [.tmp 4]) (k0 := 0) (by kernel_rfl) (by kernel_rfl) (by kernel_rfl) rfl ?_
  refine vcQ [] (lkL [(0, [0, 1]), (1, [4])]) (lkL [(1, [(1, ROrc.pcall (AV.bool false)), (4, ROrc.pcall (AV.bool false))])]) (fun (Q : AEx → St R.σ → Prop) => (∀ (hp : List AObj) (g : R.σ), true = true ∧ Does Tryd.prog R 91 [int i64 a] hp g (ret (AV.bool false)) hp g) ∧ (false = true → ∀ (hp : List AObj) (g : R.σ), true = true ∧ Does Tryd.prog R 91 [int i64 b] hp g (ret (AV.bool false)) hp g) ∧ Q AEx.ret (St.mk [(4, AV.bool (bif false then true else decide (a < b)))] [] g)) (fun _ => by kernel_rfl) ⟨(fun _ _ => ⟨rfl, (Go.Avm.Pack.c_isNaN _ _ _ _)⟩), ⟨(fun hgd => (fun _ _ => ⟨rfl, (Go.Avm.Pack.c_isNaN _ _ _ _)⟩)), ?_⟩⟩
  refine (retQ_le (retQ_same' _ _ rfl trivial rfl rfl rfl) (Le.of_eq (by kernel_rfl)))
def sortedZ (l : List Int) : Bool := (List.range (l.length - 1)).all fun i => !decide (l.getD (i + 1) 0 < l.getD i 0)
theorem c_IsSorted (R : Res) (l : KL Int) (hp : List AObj) (g : R.σ) (hl : l.l.length < 1000000) : Does Tryd.prog R 21 [encI l] hp g (.ret (.bool (sortedZ l.l))) hp g := by
  refine does_any' (fun R g => ?_) (by exact ⟨trivial, trivial⟩) R hp g
  refine spec_of_wp (nt := 21) (rs := [.tmp 2]) (k0 := 0) (by kernel_rfl) (by kernel_rfl) (by kernel_rfl) rfl ?_
  refine vcQ [] (lkL [(0, [0]), (1, [0, 3])]) (fun _ => []) (fun (Q : AEx → St R.σ → Prop) => (-9223372036854775808 ≤ (↑(List.length l.l) : Int) - 1 ∧ (↑(List.length l.l) : Int) - 1 ≤ 9223372036854775807) ∧ Wp Tryd.prog R 21 0 Rd.top (bodyOf Tryd.prog 21) [1, 0, 1, 0] (contQ Tryd.prog R 21 0 Rd.top (bodyOf Tryd.prog 21) Q [Kont.blk 0, Kont.seq [1, 1]]) (St.mk [(0, encI l), (3, int i64 ((↑(List.length l.l) : Int) - 1))] [] g)) (fun _ => by kernel_rfl) ⟨(by omega), ?_⟩
  refine (wp_loop (by kernel_rfl) (fun (i : Nat) => ⟨[(0, encI l), (3, .int .i64 ((l.l.length : Int) - 1 - i))], [], g⟩) (fun (i : Nat) => (i ≤ l.l.length - 1 ∧ ∀ j, j < i → ¬ (l.l.getD (l.l.length - 1 - j) 0 < l.l.getD (l.l.length - 1 - j - 1) 0))) (fun (i : Nat) => (l.l.length - 1 - i)) 0 (to_fr ⟨(Le.refl _), ⟨(Le.of_eq ?_), trivial⟩⟩ rfl rfl) ?_ (fun i hi => ?_))
  · show AV.int .i64 _ = AV.int .i64 _
    congr 1
    omega
  · exact ⟨Nat.zero_le _, fun j hj => by omega⟩
  · obtain ⟨h1, h2⟩ := hi
    refine vcQ [] (lkL [(2, [0, 3, 8]), (4, [0, 3, 20]), (5, [2]), (3, [0, 3])]) (lkL [(4, [(9, ROrc.pcall (AV.bool (decide (List.getD l.l (Int.toNat ((↑(List.length l.l) : Int) - 1 - (↑i : Int))) 0 < List.getD l.l (Int.toNat ((↑(List.length l.l) : Int) - 1 - (↑i : Int) - 1)) 0))))])]) (fun (Q : AEx → St R.σ → Prop) => (decide ((↑(List.length l.l) : Int) - 1 - (↑i : Int) > 0) = true → Tables.follows Tryd.prog.toTables Departure.mixedOrders = true ∧ (0 ≤ (↑(List.length l.l) : Int) - 1 - (↑i : Int) ∧ (↑(List.length l.l) : Int) - 1 - (↑i : Int) < (↑(List.length l.l) : Int)) ∧ 1 ≤ 1 ∧ (-9223372036854775808 ≤ (↑(List.length l.l) : Int) - 1 - (↑i : Int) - 1 ∧ (↑(List.length l.l) : Int) - 1 - (↑i : Int) - 1 ≤ 9223372036854775807) ∧ (0 ≤ (↑(List.length l.l) : Int) - 1 - (↑i : Int) - 1 ∧ (↑(List.length l.l) : Int) - 1 - (↑i : Int) - 1 < (↑(List.length l.l) : Int)) ∧ 1 ≤ 1 ∧ (∀ (hp : List AObj) (g : R.σ), true = true ∧ Does Tryd.prog R 63 [int i64 (List.getD l.l (Int.toNat ((↑(List.length l.l) : Int) - 1 - (↑i : Int))) 0), int i64 (List.getD l.l (Int.toNat ((↑(List.length l.l) : Int) - 1 - (↑i : Int) - 1)) 0)] hp g (ret (AV.bool (decide (List.getD l.l (Int.toNat ((↑(List.length l.l) : Int) - 1 - (↑i : Int))) 0 < List.getD l.l (Int.toNat ((↑(List.length l.l) : Int) - 1 - (↑i : Int) - 1)) 0)))) hp g) ∧ (decide (List.getD l.l (Int.toNat ((↑(List.length l.l) : Int) - 1 - (↑i : Int))) 0 < List.getD l.l (Int.toNat ((↑(List.length l.l) : Int) - 1 - (↑i : Int) - 1)) 0) = true → Q AEx.ret (St.mk [(2, AV.bool false)] [] g)) ∧ (decide (List.getD l.l (Int.toNat ((↑(List.length l.l) : Int) - 1 - (↑i : Int))) 0 < List.getD l.l (Int.toNat ((↑(List.length l.l) : Int) - 1 - (↑i : Int) - 1)) 0) = false → (-9223372036854775808 ≤ (↑(List.length l.l) : Int) - 1 - (↑i : Int) - 1 ∧ (↑(List.length l.l) : Int) - 1 - (↑i : Int) - 1 ≤ 9223372036854775807) ∧ Q AEx.normal (St.mk [(0, encI l), (3, int i64 ((↑(List.length l.l) : Int) - 1 - (↑i : Int) - 1))] [] g))) ∧ (decide ((↑(List.length l.l) : Int) - 1 - (↑i : Int) > 0) = false → Q (AEx.exit 0) (St.mk [(0, encI l), (3, int i64 ((↑(List.length l.l) : Int) - 1 - (↑i : Int))), (8, AV.bool (decide ((↑(List.length l.l) : Int) - 1 - (↑i : Int) > 0)))] [] g))) (fun _ => by kernel_rfl) ⟨fun c1 => have c1 : (↑(List.length l.l) : Int) - 1 - (↑i : Int) > 0 := (of_decide_eq_true c1); ⟨(by kernel_rfl), ⟨(by omega), ⟨(by omega), ⟨(by omega), ⟨(by omega), ⟨(by omega), ⟨(fun _ _ => ⟨rfl, (Go.Avm.Pack.c_Less _ _ _ _ _)⟩), ⟨fun c2 => have c2 : List.getD l.l (Int.toNat ((↑(List.length l.l) : Int) - 1 - (↑i : Int))) 0 < List.getD l.l (Int.toNat ((↑(List.length l.l) : Int) - 1 - (↑i : Int) - 1)) 0 := (of_decide_eq_true c2); ?_, fun c2 => have c2 : ¬List.getD l.l (Int.toNat ((↑(List.length l.l) : Int) - 1 - (↑i : Int))) 0 < List.getD l.l (Int.toNat ((↑(List.length l.l) : Int) - 1 - (↑i : Int) - 1)) 0 := (of_decide_eq_false c2); ⟨(by omega), ?_⟩⟩⟩⟩⟩⟩⟩⟩⟩, fun c1 => have c1 : ¬(↑(List.length l.l) : Int) - 1 - (↑i : Int) > 0 := (of_decide_eq_false c1); ?_⟩
    · have e1 : ((l.l.length : Int) - 1 - i).toNat = l.l.length - 1 - i := by omega
      have e2 : ((l.l.length : Int) - 1 - i - 1).toNat = l.l.length - 1 - i - 1 := by omega
      rw [e1, e2] at c2
      have : sortedZ l.l = false := by
        unfold sortedZ
        rw [List.all_eq_false]
        refine ⟨l.l.length - 1 - i - 1, by rw [List.mem_range]; omega, ?_⟩
        rw [show l.l.length - 1 - i - 1 + 1 = l.l.length - 1 - i by omega, decide_eq_true c2]
        simp
      rw [this]
      refine ⟨_, To.refl _, (retQ_le (retQ_same' _ _ rfl trivial rfl rfl rfl) (Le.refl _))⟩
    · have e1 : ((l.l.length : Int) - 1 - i).toNat = l.l.length - 1 - i := by omega
      have e2 : ((l.l.length : Int) - 1 - i - 1).toNat = l.l.length - 1 - i - 1 := by omega
      rw [e1, e2] at c2
      refine (next_round (i + 1) (to_fr ⟨(Le.refl _), ⟨(Le.of_eq ?_), trivial⟩⟩ rfl rfl) ?_ ?_)
      · show AV.int .i64 _ = AV.int .i64 _
        congr 1
        omega
      · refine ⟨by omega, fun j hj => ?_⟩
        rcases Nat.lt_or_ge j i with h | h
        · exact h2 j h
        · have : j = i := by omega
          subst this; exact c2
      · omega
    · have : sortedZ l.l = true := by
        unfold sortedZ
        rw [List.all_eq_true]
        intro k hk
        have hk := List.mem_range.1 hk
        have := h2 (l.l.length - 1 - (k + 1)) (by omega)
        rw [show l.l.length - 1 - (l.l.length - 1 - (k + 1)) = k + 1 by omega, show k + 1 - 1 = k by omega] at this
        rw [decide_eq_false this]
        rfl
      rw [this]
      refine ⟨_, To.refl _, vcQ [] (lkL [(6, [2])]) (fun _ => []) (fun (Q : AEx → St R.σ → Prop) => Q AEx.ret (St.mk [(2, AV.bool true)] [] g)) (fun _ => by kernel_rfl) (?_)⟩
      refine (retQ_le (retQ_same' _ _ rfl trivial rfl rfl rfl) (Le.refl _))
theorem c_bars1 (R : Res) (r : Rng) (j n : Int) (g : R.σ) : Does Tryd.prog R 66 [encRng r, .ref 0 0, .ref 1 0] [.cells false 1 (fun _ => .int .i64 j), .cells false 1 (fun _ => .int .i64 n)] g (.ret (.bool (decide (r.pack = j) && decide (r.low ≤ n ∧ n ≤ r.high)))) [.cells false 1 (fun _ => .int .i64 j), .cells false 1 (fun _ => .int .i64 n)] g := by
  refine spec_of_wp (nt := 21) (rs := [.tmp 4]) (k0 := 2) (by kernel_rfl) (by kernel_rfl) (by kernel_rfl) rfl ?_
  refine vcQ [] (lkL [(0, [1, 2, 3]), (1, [4])]) (fun _ => []) (fun (Q : AEx → St R.σ → Prop) => 1 ≤ 3 ∧ 1 ≤ 1 ∧ ((r.pack == j) = true → 2 ≤ 3) ∧ ((r.pack == j) = true → 1 ≤ 1) ∧ ((bif r.pack == j then decide (r.low ≤ n) else false) = true → 1 ≤ 1) ∧ ((bif r.pack == j then decide (r.low ≤ n) else false) = true → 3 ≤ 3) ∧ Q AEx.ret (St.mk [(4, AV.bool (bif bif r.pack == j then decide (r.low ≤ n) else false then decide (n ≤ r.high) else false))] [cells false 1 fun (x : Nat) => int i64 j, cells false 1 fun (x : Nat) => int i64 n, cells false 3 (nth [int i64 r.pack, int i64 r.low, int i64 r.high])] g)) (fun _ => by kernel_rfl) ⟨(by omega), ⟨(by omega), ⟨(by omega), ⟨(by omega), ⟨(by omega), ⟨(by omega), ?_⟩⟩⟩⟩⟩⟩
  refine (retQ_le (retQ_take' 2 _ _ rfl trivial (by omega) trivial ⟨(fun j hj => match j, hj with | 0, _ => trivial ), ⟨(fun j hj => match j, hj with | 0, _ => trivial ), trivial⟩⟩ (by kernel_rfl) rfl rfl) (Le.of_eq ?_))
  show (AV.bool (bif bif r.pack == j then decide (r.low ≤ n) else false then decide (n ≤ r.high) else false)) = _
  show AV.bool _ = AV.bool _
  by_cases h : r.pack = j <;> by_cases h2 : r.low ≤ n <;> simp [h, h2]
theorem c_bars (R : Res) (x : Ix) (i k j n : Int) (hp : List AObj) (g : R.σ) (hx : formedB x = true) (hi : 0 ≤ i ∧ i < x.l.length) (hk : 0 ≤ k ∧ k < ((x.l.getD i.toNat default).l.length : Int)) :
    Does Tryd.prog R 27 [encIx x, .int .i64 i, .int .i64 k, .int .i64 j, .int .i64 n] hp g (.ret (.bool (barsB x i k j n))) hp g := by
  have e := rel_len hx hi hk
  refine does_any' (fun R g => ?_) (by exact ⟨⟨trivial, trivial⟩, ⟨trivial, ⟨trivial, ⟨trivial, ⟨trivial, trivial⟩⟩⟩⟩⟩) R hp g
  refine spec_of_wp (nt := 22) (rs := [.tmp 10]) (k0 := 0) (by kernel_rfl) (by kernel_rfl) (by kernel_rfl) rfl ?_
  refine vcQ [] (lkL [(0, [1, 2, 5, 8, 9]), (1, [10])]) (lkL [(1, [(10, ROrc.kcall (AV.bool (List.any (List.getD (List.getD x.l (Int.toNat i) default).l (Int.toNat k) default).bars.l fun (r : Rng) => decide (r.pack = j) && decide (r.low ≤ n ∧ n ≤ r.high))))])]) (fun (Q : AEx → St R.σ → Prop) => 1 ≤ 1 ∧ (0 ≤ i ∧ i < (↑(List.length x.l) : Int)) ∧ 1 ≤ 1 ∧ (0 ≤ k ∧ k < (↑(List.length (List.getD x.l (Int.toNat i) default).l) : Int)) ∧ 1 ≤ 1 ∧ (true = true ∧ Does Tryd.prog R 24 [encR (List.getD (List.getD x.l (Int.toNat i) default).l (Int.toNat k) default).bars, fn 66 0 (nth []) 2 (nth [ref 1 0, ref 2 0])] [cells false 1 (nth [encPacks x]), cells false 1 fun (a : Nat) => int i64 j, cells false 1 fun (a : Nat) => int i64 n] g (ret (AV.bool (List.any (List.getD (List.getD x.l (Int.toNat i) default).l (Int.toNat k) default).bars.l fun (r : Rng) => decide (r.pack = j) && decide (r.low ≤ n ∧ n ≤ r.high)))) [cells false 1 (nth [encPacks x]), cells false 1 fun (a : Nat) => int i64 j, cells false 1 fun (a : Nat) => int i64 n] g) ∧ Q AEx.ret (St.mk [(10, AV.bool (List.any (List.getD (List.getD x.l (Int.toNat i) default).l (Int.toNat k) default).bars.l fun (r : Rng) => decide (r.pack = j) && decide (r.low ≤ n ∧ n ≤ r.high)))] [cells false 1 (nth [encPacks x]), cells false 1 fun (a : Nat) => int i64 j, cells false 1 fun (a : Nat) => int i64 n] g)) (fun _ => by kernel_rfl) ⟨(by omega), ⟨(by omega), ⟨(by omega), ⟨(by omega), ⟨(by omega), ⟨⟨rfl, (Go.Avm.Pack.c_ContainsFuncF_PackRange _ _ _ _ _ _ _ _ _ _ (by omega) (by kernel_rfl) (fun r _ => (does_sub' [1, 2] 3 (fun R g => Go.Avm.Pack.c_bars1 R (r) (j) (n) g) rfl rfl rfl (by exact ⟨⟨rfl, Nat.le_refl _, fun j hj => match j, hj with | 0, _ => (Le.refl _) ⟩, ⟨⟨rfl, Nat.le_refl _, fun j hj => match j, hj with | 0, _ => (Le.refl _) ⟩, trivial⟩⟩) (by exact ⟨by omega, ⟨by omega, trivial⟩⟩) (by exact ⟨le_ren (by exact ⟨⟨⟨trivial, trivial⟩, trivial⟩, trivial⟩), ⟨(Le.refl _), ⟨(Le.refl _), trivial⟩⟩⟩) (by exact le_unren (by exact trivial)) (by exact ⟨LeO.rflc, ⟨⟨rfl, Nat.le_refl _, fun j hj => match j, hj with | 0, _ => (Le.refl _) ⟩, ⟨⟨rfl, Nat.le_refl _, fun j hj => match j, hj with | 0, _ => (Le.refl _) ⟩, trivial⟩⟩⟩))))⟩, ?_⟩⟩⟩⟩⟩⟩
  refine (retQ_le (retQ_drop _ _ rfl trivial trivial rfl) (Le.of_eq (by kernel_rfl)))
end Go.Avm.Pack
namespace Go.Avm.Pack
open Go Go.Avm Go.Proofs
open Go.IntKind (i64 u64)
open Go.Avm.AV (int bool any fz fp sl ow ref fn ifc val agg tup)
open Go.Avm.AObj (cells dead)
open Go.Avm.Oc (ret)
set_option maxRecDepth 4000

theorem c_Lost1 (R : Res) (v : Int) (l : KL Rel) (g : R.σ) : Does Tryd.prog R 23 [.int .i64 v, .ref 0 0] [.cells false 1 (nth [encRels l])] g (.ret (.bool (decide (v < 0) || decide (v ≥ l.l.length)))) [.cells false 1 (nth [encRels l])] g := by
  refine spec_of_wp (nt := 12) (rs := [.tmp 3]) (k0 := 1) (by kernel_rfl) (by kernel_rfl) (by kernel_rfl) rfl ?_
  refine vcQ [] (lkL [(0, [0, 1]), (1, [3])]) (fun _ => []) (fun (Q : AEx → St R.σ → Prop) => ((!decide (v < 0)) = true → 1 ≤ 1) ∧ Q AEx.ret (St.mk [(3, AV.bool (bif decide (v < 0) then true else decide (v ≥ (↑(List.length l.l) : Int))))] [cells false 1 (nth [encRels l])] g)) (fun _ => by kernel_rfl) ⟨(by omega), ?_⟩
  refine (retQ_le (retQ_same' _ _ rfl trivial rfl rfl rfl) (Le.of_eq (by kernel_rfl)))
def okV (x : Ix) (i k : Int) (r : Rng) (v : Int) : Bool := decide (r.low ≤ v ∧ v ≤ r.high) && !barsB x i k r.pack v && !barsB x r.pack v i k
theorem c_Lost21 (R : Res) (x : Ix) (r : Rng) (i k v : Int) (g : R.σ) (hx : formedB x = true) (hi : 0 ≤ i ∧ i < x.l.length) (hk : 0 ≤ k ∧ k < ((x.l.getD i.toNat default).l.length : Int)) (hr : 0 ≤ r.pack ∧ r.pack < x.l.length) (hv : 0 ≤ v ∧ v < ((x.l.getD r.pack.toNat default).l.length : Int)) :
    Does Tryd.prog R 26 [.int .i64 v, .ref 0 0, .ref 1 0, .ref 2 0, .ref 3 0] [.cells false 3 (rngC r), .cells false 1 (nth [encPacks x]), .cells false 1 (nth [.int .i64 i]), .cells false 1 (nth [.int .i64 k])] g
      (.ret (.bool (okV x i k r v))) [.cells false 3 (rngC r), .cells false 1 (nth [encPacks x]), .cells false 1 (nth [.int .i64 i]), .cells false 1 (nth [.int .i64 k])] g := by
  refine spec_of_wp (nt := 37) (rs := [.tmp 6]) (k0 := 4) (by kernel_rfl) (by kernel_rfl) (by kernel_rfl) rfl ?_
  refine vcQ [] (lkL [(0, [0, 1, 2, 3, 4]), (1, [6])]) (lkL [(1, [(17, ROrc.pcall (AV.bool (barsB x i k r.pack v))), (27, ROrc.pcall (AV.bool (barsB x r.pack v i k)))])]) (fun (Q : AEx → St R.σ → Prop) => 2 ≤ 3 ∧ (decide (r.low ≤ v) = true → 3 ≤ 3) ∧ ((bif decide (r.low ≤ v) then decide (v ≤ r.high) else false) = true → 1 ≤ 1) ∧ ((bif decide (r.low ≤ v) then decide (v ≤ r.high) else false) = true → 1 ≤ 1) ∧ ((bif decide (r.low ≤ v) then decide (v ≤ r.high) else false) = true → 1 ≤ 1) ∧ ((bif decide (r.low ≤ v) then decide (v ≤ r.high) else false) = true → 1 ≤ 3) ∧ ((bif decide (r.low ≤ v) then decide (v ≤ r.high) else false) = true → ∀ (hp : List AObj) (g : R.σ), true = true ∧ Does Tryd.prog R 27 [encIx x, int i64 i, int i64 k, int i64 r.pack, int i64 v] hp g (ret (AV.bool (barsB x i k r.pack v))) hp g) ∧ ((bif bif decide (r.low ≤ v) then decide (v ≤ r.high) else false then !barsB x i k r.pack v else false) = true → 1 ≤ 1) ∧ ((bif bif decide (r.low ≤ v) then decide (v ≤ r.high) else false then !barsB x i k r.pack v else false) = true → 1 ≤ 3) ∧ ((bif bif decide (r.low ≤ v) then decide (v ≤ r.high) else false then !barsB x i k r.pack v else false) = true → 1 ≤ 1) ∧ ((bif bif decide (r.low ≤ v) then decide (v ≤ r.high) else false then !barsB x i k r.pack v else false) = true → 1 ≤ 1) ∧ ((bif bif decide (r.low ≤ v) then decide (v ≤ r.high) else false then !barsB x i k r.pack v else false) = true → ∀ (hp : List AObj) (g : R.σ), true = true ∧ Does Tryd.prog R 27 [encIx x, int i64 r.pack, int i64 v, int i64 i, int i64 k] hp g (ret (AV.bool (barsB x r.pack v i k))) hp g) ∧ Q AEx.ret (St.mk [(6, AV.bool (bif bif bif decide (r.low ≤ v) then decide (v ≤ r.high) else false then !barsB x i k r.pack v else false then !barsB x r.pack v i k else false))] [cells false 3 (rngC r), cells false 1 (nth [encPacks x]), cells false 1 (nth [int i64 i]), cells false 1 (nth [int i64 k])] g)) (fun _ => by kernel_rfl) ⟨(by omega), ⟨(by omega), ⟨(by omega), ⟨(by omega), ⟨(by omega), ⟨(by omega), ⟨(fun hgd => (fun _ _ => ⟨rfl, (Go.Avm.Pack.c_bars _ _ _ _ _ _ _ _ (by omega) (by omega) (by omega))⟩)), ⟨(by omega), ⟨(by omega), ⟨(by omega), ⟨(by omega), ⟨(fun hgd => (fun _ _ => ⟨rfl, (Go.Avm.Pack.c_bars _ _ _ _ _ _ _ _ (by omega) (by omega) (by omega))⟩)), ?_⟩⟩⟩⟩⟩⟩⟩⟩⟩⟩⟩⟩
  refine (retQ_le (retQ_same' _ _ rfl trivial rfl rfl rfl) (Le.of_eq ?_))
  show (AV.bool (bif bif bif decide (r.low ≤ v) then decide (v ≤ r.high) else false then !barsB x i k r.pack v else false then !barsB x r.pack v i k else false)) = _
  show AV.bool _ = AV.bool _
  unfold okV
  congr 1
  by_cases h : r.low ≤ v <;> simp [h]
theorem left_in {x : Ix} (hx : formedB x = true) {j : Nat} : ∀ v, v ∈ (leftI x j).l → 0 ≤ v ∧ v < ((x.l.getD j default).l.length : Int) := by
  intro v hv
  obtain ⟨n, hn, rfl⟩ := List.mem_map.1 hv
  have := (trim_sets hx j).2.2 n hn
  omega
theorem left_len {x : Ix} {j : Nat} : (leftI x j).l.length ≤ 5 := by
  unfold leftI
  rw [List.length_map]
  exact memS_le _
theorem left_any {x : Ix} (i k : Int) (r : Rng) : (leftI x r.pack.toNat).l.any (okV x i k r) = needB x (trimL x) i k r := by
  unfold leftI needB okV
  rw [List.any_map]
  rfl
theorem c_Lost2 (R : Res) (x : Ix) (L : Nat → KL Int) (rg : Rng) (i k : Int) (g : R.σ) (hx : formedB x = true) (hL : ∀ j v, v ∈ (L j).l → 0 ≤ v ∧ v < ((x.l.getD j default).l.length : Int)) (hl : ∀ j, (L j).l.length < 1000000) (hi : 0 ≤ i ∧ i < x.l.length) (hk : 0 ≤ k ∧ k < ((x.l.getD i.toNat default).l.length : Int)) (hr : 0 ≤ rg.pack ∧ rg.pack < x.l.length) :
    Does Tryd.prog R 25 [encRng rg, .ref 0 0, .ref 1 0, .ref 2 0, .ref 3 0] [.cells false 1 (nth [encLs x.l.length L]), .cells false 1 (nth [encPacks x]), .cells false 1 (nth [.int .i64 i]), .cells false 1 (nth [.int .i64 k])] g
      (.ret (.bool (!(L rg.pack.toNat).l.any (okV x i k rg)))) [.cells false 1 (nth [encLs x.l.length L]), .cells false 1 (nth [encPacks x]), .cells false 1 (nth [.int .i64 i]), .cells false 1 (nth [.int .i64 k])] g := by
  have hl := hl rg.pack.toNat
  have hin := hL rg.pack.toNat
  refine spec_of_wp (nt := 15) (rs := [.tmp 6]) (k0 := 4) (by kernel_rfl) (by kernel_rfl) (by kernel_rfl) rfl ?_
  refine vcQ [] (lkL [(0, [1, 2, 3, 4, 5]), (1, [6])]) (lkL [(1, [(6, ROrc.kcall (AV.bool (List.any (L (Int.toNat rg.pack)).l (okV x i k rg))))])]) (fun (Q : AEx → St R.σ → Prop) => 1 ≤ 1 ∧ 1 ≤ 3 ∧ (0 ≤ rg.pack ∧ rg.pack < (↑(List.length x.l) : Int)) ∧ 1 ≤ 1 ∧ (true = true ∧ Does Tryd.prog R 22 [encI (L (Int.toNat rg.pack)), fn 26 0 (nth []) 4 (nth [ref 4 0, ref 1 0, ref 2 0, ref 3 0])] [cells false 1 (nth [encLs (List.length x.l) L]), cells false 1 (nth [encPacks x]), cells false 1 (nth [int i64 i]), cells false 1 (nth [int i64 k]), cells false 3 (nth [int i64 rg.pack, int i64 rg.low, int i64 rg.high])] g (ret (AV.bool (List.any (L (Int.toNat rg.pack)).l (okV x i k rg)))) [cells false 1 (nth [encLs (List.length x.l) L]), cells false 1 (nth [encPacks x]), cells false 1 (nth [int i64 i]), cells false 1 (nth [int i64 k]), cells false 3 (nth [int i64 rg.pack, int i64 rg.low, int i64 rg.high])] g) ∧ Q AEx.ret (St.mk [(6, AV.bool !List.any (L (Int.toNat rg.pack)).l (okV x i k rg))] [cells false 1 (nth [encLs (List.length x.l) L]), cells false 1 (nth [encPacks x]), cells false 1 (nth [int i64 i]), cells false 1 (nth [int i64 k]), cells false 3 (nth [int i64 rg.pack, int i64 rg.low, int i64 rg.high])] g)) (fun _ => by kernel_rfl) ⟨(by omega), ⟨(by omega), ⟨(by omega), ⟨(by omega), ⟨⟨rfl, (Go.Avm.Pack.c_ContainsFuncF_int _ _ _ _ _ _ _ _ _ _ (by omega) (by kernel_rfl) (fun r _ => (does_sub' [4, 1, 2, 3] 5 (fun R g => Go.Avm.Pack.c_Lost21 R (x) (rg) (i) (k) (r) g (by omega) (by omega) (by omega) (by omega) ?_) rfl rfl rfl (by exact ⟨⟨rfl, Nat.le_refl _, fun j hj => match j, hj with | 0, _ => (Le.refl _) | 1, _ => (Le.refl _) | 2, _ => (Le.refl _) ⟩, ⟨⟨rfl, Nat.le_refl _, fun j hj => match j, hj with | 0, _ => (Le.refl _) ⟩, ⟨⟨rfl, Nat.le_refl _, fun j hj => match j, hj with | 0, _ => (Le.refl _) ⟩, ⟨⟨rfl, Nat.le_refl _, fun j hj => match j, hj with | 0, _ => (Le.refl _) ⟩, trivial⟩⟩⟩⟩) (by exact ⟨by omega, ⟨by omega, ⟨by omega, ⟨by omega, trivial⟩⟩⟩⟩) (by exact ⟨le_ren (by exact trivial), ⟨(Le.refl _), ⟨(Le.refl _), ⟨(Le.refl _), ⟨(Le.refl _), trivial⟩⟩⟩⟩⟩) (by exact le_unren (by exact trivial)) (by exact ⟨LeO.rflc, ⟨⟨rfl, Nat.le_refl _, fun j hj => match j, hj with | 0, _ => (Le.refl _) ⟩, ⟨⟨rfl, Nat.le_refl _, fun j hj => match j, hj with | 0, _ => (Le.refl _) ⟩, ⟨⟨rfl, Nat.le_refl _, fun j hj => match j, hj with | 0, _ => (Le.refl _) ⟩, ⟨⟨rfl, Nat.le_refl _, fun j hj => match j, hj with | 0, _ => (Le.refl _) | 1, _ => (Le.refl _) | 2, _ => (Le.refl _) ⟩, trivial⟩⟩⟩⟩⟩))))⟩, ?_⟩⟩⟩⟩⟩
  · exact hin _ (by assumption)
  · refine (retQ_le (retQ_take' 4 _ _ rfl trivial (by omega) trivial ⟨(fun j hj => match j, hj with | 0, _ => trivial ), ⟨(fun j hj => match j, hj with | 0, _ => trivial ), ⟨(fun j hj => match j, hj with | 0, _ => trivial ), ⟨(fun j hj => match j, hj with | 0, _ => trivial ), trivial⟩⟩⟩⟩ (by kernel_rfl) rfl rfl) (Le.refl _))
theorem left_sorted {x : Ix} (hx : formedB x = true) (j : Nat) : sortedZ (leftI x j).l = true := by
  have hs := (trim_sets hx j).1
  have h := forS (p := fun s => sortedZ ((memS s).map fun (n : Nat) => (n : Int))) (by decide) _ hs
  exact h
theorem left_few {x : Ix} (hx : formedB x = true) {j : Nat} (hj : j < x.l.length) : (leftI x j).l.length ≤ (x.l.getD j default).l.length := by
  have hs := (trim_sets hx j).1
  have h5 := formed_five hx hj
  have h := forS (p := fun s => (List.range 6).all fun n => !((memS s).all fun m => decide (m < n)) || decide ((memS s).length ≤ n)) (by decide) _ hs
  have h := (List.all_eq_true.1 h) (x.l.getD j default).l.length (by rw [List.mem_range]; omega)
  have ha : ((memS (trimL x j)).all fun m => decide (m < (x.l.getD j default).l.length)) = true := by
    rw [List.all_eq_true]
    exact fun m hm => decide_eq_true ((trim_sets hx j).2.2 m hm)
  rw [ha] at h
  have h : (memS (trimL x j)).length ≤ (x.l.getD j default).l.length := by simpa using h
  unfold leftI
  rw [List.length_map]
  exact h
theorem left_out {x : Ix} (hx : formedB x = true) (j : Nat) : ((leftI x j).l.any fun v => decide (v < 0) || decide (v ≥ ((x.l.getD j default).l.length : Int))) = false := by
  rw [List.any_eq_false]
  intro v hv
  have := left_in hx v hv
  simp only [Bool.or_eq_true, decide_eq_true_eq]
  omega
theorem left_has {x : Ix} {j k : Nat} : (leftI x j).l.any (eqZ k) = decide (k ∈ memS (trimL x j)) := by
  rw [Bool.eq_iff_iff, decide_eq_true_iff, List.any_eq_true]
  unfold leftI eqZ
  constructor
  · rintro ⟨v, hv, he⟩
    obtain ⟨n, hn, rfl⟩ := List.mem_map.1 hv
    have : (k : Int) = n := by simpa using he
    have : k = n := by omega
    subst this; exact hn
  · exact fun h => ⟨k, List.mem_map.2 ⟨k, h, rfl⟩, by simp⟩
theorem lost_any {x : Ix} (hx : formedB x = true) {L : Nat → KL Int} (hL : L = leftI x) {i k : Nat} (hi : i < x.l.length) (hk : k < (x.l.getD i default).l.length) :
    ((x.l.getD i default).l.getD k default).needs.l.any (fun rg => !(L rg.pack.toNat).l.any (okV x i k rg)) = !decide (k ∈ memS (trimL x i)) := by
  have e : (fun rg : Rng => !(L rg.pack.toNat).l.any (okV x i k rg)) = fun rg => !needB x (trimL x) i k rg := by
    funext rg
    rw [hL, left_any]
  rw [e, ← List.not_all_eq_any_not]
  congr 1
  rw [Bool.eq_iff_iff, decide_eq_true_iff]
  exact lacks_iff hx hi hk
theorem c_PackLost (R : Res) [Tab LT R] (x : Ix) (g : R.σ) : Does Tryd.prog R 5 [encIx x] [] g (.ret (.bool true)) [] g := by
  obtain ⟨L, hL⟩ : ∃ L : Nat → KL Int, L = leftI x := ⟨_, rfl⟩
  cases hs0 : smallB x 6 with
  | false =>
    refine spec_of_wp (nt := 116) (rs := [.tmp 2]) (k0 := 0) (by kernel_rfl) (by kernel_rfl) (by kernel_rfl) rfl ?_
    refine vcQ [] (lkL [(0, [1]), (1, [1, 21]), (2, [2]), (3, [1, 3, 4])]) (lkL [(1, [(1, ROrc.pcall (AV.bool false)), (5, ROrc.pcall (AV.bool (formedB x)))]), (2, [(0, ROrc.pcall (AV.bool true))])]) (fun (Q : AEx → St R.σ → Prop) => 1 ≤ 1 ∧ (∀ (hp : List AObj) (g : R.σ), true = true ∧ Does Tryd.prog R 7 [encIx x, int i64 6] hp g (ret (AV.bool false)) hp g) ∧ (false = true → 1 ≤ 1) ∧ (false = true → ∀ (hp : List AObj) (g : R.σ), true = true ∧ Does Tryd.prog R 10 [encIx x] hp g (ret (AV.bool (formedB x))) hp g) ∧ (true = true → (∀ (hp : List AObj) (g : R.σ), true = true ∧ Does Tryd.prog R 8 [] hp g (ret (AV.bool true)) hp g) ∧ Q AEx.ret (St.mk [(2, AV.bool true)] [cells false 1 (nth [encPacks x])] g)) ∧ (true = false → False)) (fun _ => by kernel_rfl) ⟨(by omega), ⟨(fun _ _ => ⟨rfl, (does_bool hs0 (Go.Avm.Pack.c_Small _ _ _ _ _ (by decide)))⟩), ⟨(by omega), ⟨(fun hgd => (fun _ _ => ⟨rfl, (Go.Avm.Pack.c_Index _ _ _ _ (by simp at * <;> omega) (by simp at * <;> omega))⟩)), ⟨fun _ => ⟨(fun _ _ => ⟨rfl, (Go.Avm.Pack.c_works _ _ _)⟩), ?_⟩, fun h => (nomatch h)⟩⟩⟩⟩⟩
    refine (retQ_le (retQ_drop _ _ rfl trivial trivial rfl) (Le.refl _))
  | true =>
    obtain ⟨hs, hr⟩ := small_of hs0
    cases hx : formedB x with
    | false =>
      refine spec_of_wp (nt := 116) (rs := [.tmp 2]) (k0 := 0) (by kernel_rfl) (by kernel_rfl) (by kernel_rfl) rfl ?_
      refine vcQ [] (lkL [(0, [1]), (1, [1, 21]), (2, [2]), (3, [1, 3, 4])]) (lkL [(1, [(1, ROrc.pcall (AV.bool true)), (5, ROrc.pcall (AV.bool false))]), (2, [(0, ROrc.pcall (AV.bool true))])]) (fun (Q : AEx → St R.σ → Prop) => 1 ≤ 1 ∧ (∀ (hp : List AObj) (g : R.σ), true = true ∧ Does Tryd.prog R 7 [encIx x, int i64 6] hp g (ret (AV.bool true)) hp g) ∧ (true = true → 1 ≤ 1) ∧ (true = true → ∀ (hp : List AObj) (g : R.σ), true = true ∧ Does Tryd.prog R 10 [encIx x] hp g (ret (AV.bool false)) hp g) ∧ (true = true → (∀ (hp : List AObj) (g : R.σ), true = true ∧ Does Tryd.prog R 8 [] hp g (ret (AV.bool true)) hp g) ∧ Q AEx.ret (St.mk [(2, AV.bool true)] [cells false 1 (nth [encPacks x])] g)) ∧ (true = false → False)) (fun _ => by kernel_rfl) ⟨(by omega), ⟨(fun _ _ => ⟨rfl, (does_bool hs0 (Go.Avm.Pack.c_Small _ _ _ _ _ (by decide)))⟩), ⟨(by omega), ⟨(fun hgd => (fun _ _ => ⟨rfl, (does_bool hx (Go.Avm.Pack.c_Index _ _ _ _ (by omega) (by omega)))⟩)), ⟨fun _ => ⟨(fun _ _ => ⟨rfl, (Go.Avm.Pack.c_works _ _ _)⟩), ?_⟩, fun h => (nomatch h)⟩⟩⟩⟩⟩
      refine (retQ_le (retQ_drop _ _ rfl trivial trivial rfl) (Le.refl _))
    | true =>
      have hLin : ∀ j v, v ∈ (L j).l → 0 ≤ v ∧ v < ((x.l.getD j default).l.length : Int) := by rw [hL]; exact fun j => left_in hx
      have hLl : ∀ j, (L j).l.length < 1000000 := by
        rw [hL]
        intro j
        have := left_len (x := x) (j := j)
        omega
      refine spec_of_wp (nt := 116) (rs := [.tmp 2]) (k0 := 0) (by kernel_rfl) (by kernel_rfl) (by kernel_rfl) rfl ?_
      refine vcQ [] (lkL [(0, [1]), (1, [1, 21]), (2, [2]), (3, [1, 3, 4]), (4, [1, 3, 37]), (5, [2]), (6, [1, 3, 39, 40, 41])]) (lkL [(1, [(1, ROrc.pcall (AV.bool true)), (5, ROrc.pcall (AV.bool true))]), (2, [(0, ROrc.pcall (AV.bool true))]), (3, [(1, ROrc.pcall (tup 2 (nth [encLs (List.length x.l) L, int i64 0]))), (6, ROrc.val (Orc.obj (nth [encLs (List.length x.l) L])))])]) (fun (Q : AEx → St R.σ → Prop) => 1 ≤ 1 ∧ (∀ (hp : List AObj) (g : R.σ), true = true ∧ Does Tryd.prog R 7 [encIx x, int i64 6] hp g (ret (AV.bool true)) hp g) ∧ (true = true → 1 ≤ 1) ∧ (true = true → ∀ (hp : List AObj) (g : R.σ), true = true ∧ Does Tryd.prog R 10 [encIx x] hp g (ret (AV.bool true)) hp g) ∧ (false = true → (∀ (hp : List AObj) (g : R.σ), true = true ∧ Does Tryd.prog R 8 [] hp g (ret (AV.bool true)) hp g) ∧ Q AEx.ret (St.mk [(2, AV.bool true)] [cells false 1 (nth [encPacks x])] g)) ∧ (false = false → 1 ≤ 1 ∧ (∀ (hp : List AObj) (g : R.σ), true = true ∧ Does Tryd.prog R 9 [encIx x] hp g (ret (tup 2 (nth [encLs (List.length x.l) L, int i64 0]))) hp g) ∧ 1 ≤ 1 ∧ (∀ (c : Nat), c < 1 → nth [encLs (List.length x.l) L] c = over (fun (a : Nat) => fz Fz.nil 0 0 fun (x x_2 : Nat) => any) 0 1 (fun (x_2 : Nat) => encLs (List.length x.l) L) c) ∧ (true = true → 1 ≤ 1) ∧ (true = true → 1 ≤ 1) ∧ ((bif false then true else (↑(List.length x.l) : Int) != (↑(List.length x.l) : Int)) = true → Q AEx.ret (St.mk [(2, AV.bool false)] [cells false 1 (nth [encPacks x]), cells false 1 (nth [encLs (List.length x.l) L])] g)) ∧ ((bif false then true else (↑(List.length x.l) : Int) != (↑(List.length x.l) : Int)) = false → 1 ≤ 1 ∧ Wp Tryd.prog R 116 0 Rd.top (bodyOf Tryd.prog 5) [1, 1, 1, 1, 0, 1, 0] (contQ Tryd.prog R 116 0 Rd.top (bodyOf Tryd.prog 5) Q [Kont.blk 0, Kont.seq [1, 1, 1, 1, 1]]) (St.mk [(1, ref 0 0), (3, ref 1 0), (39, encPacks x), (40, int i64 (↑(List.length x.l) : Int)), (41, int i64 0)] [cells false 1 (nth [encPacks x]), cells false 1 (nth [encLs (List.length x.l) L])] g)))) (fun _ => by kernel_rfl) ⟨(by omega), ⟨(fun _ _ => ⟨rfl, (does_bool hs0 (Go.Avm.Pack.c_Small _ _ _ _ _ (by decide)))⟩), ⟨(by omega), ⟨(fun hgd => (fun _ _ => ⟨rfl, (does_bool hx (Go.Avm.Pack.c_Index _ _ _ _ (by omega) (by omega)))⟩)), ⟨fun h => (nomatch h), fun _ => ⟨(by omega), ⟨(fun _ _ => ⟨rfl, (Go.Avm.Pack.c_TrimL _ _ _ _ _ (by omega) (by omega) hL)⟩), ⟨(by omega), ⟨(fun c hc => match c, hc with | 0, _ => (by kernel_rfl) ), ⟨(by omega), ⟨(by omega), ⟨fun c1 => have c1 : false = true ∨ ¬(↑(List.length x.l) : Int) = (↑(List.length x.l) : Int) := ((cO_t c1).imp (fun h => h) (fun h => (bne_iff_ne.mp h))); ?_, fun c1 => have c1 : false = false ∧ (↑(List.length x.l) : Int) = (↑(List.length x.l) : Int) := ⟨(cO_f c1).1, (bne_eq_false_iff_eq.mp (cO_f c1).2)⟩; ⟨(by omega), ?_⟩⟩⟩⟩⟩⟩⟩⟩⟩⟩⟩⟩⟩
      · simp at c1
      · have hS1 : ∀ j, sortedZ (L j).l = true := by rw [hL]; exact left_sorted hx
        have hS2 : ∀ j, j < x.l.length → (L j).l.length ≤ (x.l.getD j default).l.length := by rw [hL]; exact fun j => left_few hx
        have hS3 : ∀ j, ((L j).l.any fun v => decide (v < 0) || decide (v ≥ ((x.l.getD j default).l.length : Int))) = false := by rw [hL]; exact left_out hx
        have h8 := (formed_le hx).2
        refine (wp_loop (by kernel_rfl) (fun (i : Nat) => ⟨[(1, ref 0 0), (3, ref 1 0), (39, encPacks x), (40, int i64 (↑(List.length x.l) : Int)), (41, .int .i64 i)], [cells false 1 (nth [encPacks x]), cells false 1 (nth [encLs (List.length x.l) L])], g⟩) (fun (i : Nat) => (i ≤ x.l.length)) (fun (i : Nat) => (x.l.length - i)) 0 (to_fr ⟨(Le.refl _), ⟨(Le.refl _), ⟨(Le.refl _), ⟨(Le.refl _), ⟨(Le.of_eq (by kernel_rfl)), trivial⟩⟩⟩⟩⟩ rfl rfl) ?_ (fun i hi => ?_))
        · omega
        · have hlen := hLl i
          have hs1 := hS1 i
          have hs3 := hS3 i
          refine vcQ [] (lkL [(7, [1, 3, 39, 40, 41, 42]), (8, [1, 3, 5, 6, 39, 40, 41]), (9, [1, 3, 39, 40, 41, 69]), (10, [2]), (11, [1, 3, 39, 40, 41])]) (lkL [(8, [(5, ROrc.val (Orc.obj (nth [encRels (List.getD x.l i default)])))]), (9, [(4, ROrc.pcall (AV.bool true)), (22, ROrc.kcall (AV.bool false))])]) (fun (Q : AEx → St R.σ → Prop) => (decide ((↑i : Int) < (↑(List.length x.l) : Int)) = true → (0 ≤ (↑i : Int) ∧ (↑i : Int) < (↑(List.length x.l) : Int)) ∧ 1 ≤ 1 ∧ 1 ≤ 1 ∧ (∀ (c : Nat), c < 1 → nth [encRels (List.getD x.l i default)] c = over (fun (a : Nat) => fz Fz.nil 0 0 fun (x x_2 : Nat) => any) 0 1 (fun (x_2 : Nat) => encRels (List.getD x.l i default)) c) ∧ Tables.follows Tryd.prog.toTables Departure.mixedOrders = true ∧ 1 ≤ 1 ∧ (0 ≤ (↑i : Int) ∧ (↑i : Int) < (↑(List.length x.l) : Int)) ∧ 1 ≤ 1 ∧ (∀ (hp : List AObj) (g : R.σ), true = true ∧ Does Tryd.prog R 21 [encI (L i)] hp g (ret (AV.bool true)) hp g) ∧ (true = true → 1 ≤ 1) ∧ (true = true → 0 ≤ (↑i : Int) ∧ (↑i : Int) < (↑(List.length x.l) : Int)) ∧ (true = true → 1 ≤ 1) ∧ (true = true → 1 ≤ 1) ∧ ((!bif false then true else decide ((↑(List.length (L i).l) : Int) > (↑(List.length (List.getD x.l i default).l) : Int))) = true → 1 ≤ 1) ∧ ((!bif false then true else decide ((↑(List.length (L i).l) : Int) > (↑(List.length (List.getD x.l i default).l) : Int))) = true → 0 ≤ (↑i : Int) ∧ (↑i : Int) < (↑(List.length x.l) : Int)) ∧ ((!bif false then true else decide ((↑(List.length (L i).l) : Int) > (↑(List.length (List.getD x.l i default).l) : Int))) = true → 1 ≤ 1) ∧ ((!bif false then true else decide ((↑(List.length (L i).l) : Int) > (↑(List.length (List.getD x.l i default).l) : Int))) = true → true = true ∧ Does Tryd.prog R 22 [encI (L i), fn 23 0 (nth []) 1 (nth [ref 2 0])] [cells false 1 (nth [encPacks x]), cells false 1 (nth [encLs (List.length x.l) L]), cells false 1 (nth [encRels (List.getD x.l i default)])] g (ret (AV.bool false)) [cells false 1 (nth [encPacks x]), cells false 1 (nth [encLs (List.length x.l) L]), cells false 1 (nth [encRels (List.getD x.l i default)])] g) ∧ ((bif bif false then true else decide ((↑(List.length (L i).l) : Int) > (↑(List.length (List.getD x.l i default).l) : Int)) then true else false) = true → Q AEx.ret (St.mk [(2, AV.bool false)] [cells false 1 (nth [encPacks x]), cells false 1 (nth [encLs (List.length x.l) L]), cells false 1 (nth [encRels (List.getD x.l i default)])] g)) ∧ ((bif bif false then true else decide ((↑(List.length (L i).l) : Int) > (↑(List.length (List.getD x.l i default).l) : Int)) then true else false) = false → (-9223372036854775808 ≤ (↑i : Int) + 1 ∧ (↑i : Int) + 1 ≤ 9223372036854775807) ∧ Q AEx.normal (St.mk [(1, ref 0 0), (3, ref 1 0), (39, encPacks x), (40, int i64 (↑(List.length x.l) : Int)), (41, int i64 ((↑i : Int) + 1))] [cells false 1 (nth [encPacks x]), cells false 1 (nth [encLs (List.length x.l) L]), cells false 1 (nth [encRels (List.getD x.l i default)])] g))) ∧ (decide ((↑i : Int) < (↑(List.length x.l) : Int)) = false → Q (AEx.exit 0) (St.mk [(1, ref 0 0), (3, ref 1 0), (39, encPacks x), (40, int i64 (↑(List.length x.l) : Int)), (41, int i64 (↑i : Int)), (42, AV.bool (decide ((↑i : Int) < (↑(List.length x.l) : Int))))] [cells false 1 (nth [encPacks x]), cells false 1 (nth [encLs (List.length x.l) L])] g))) (fun _ => by kernel_rfl) ⟨fun c1 => have c1 : (↑i : Int) < (↑(List.length x.l) : Int) := (of_decide_eq_true c1); ⟨(by omega), ⟨(by omega), ⟨(by omega), ⟨(fun c hc => match c, hc with | 0, _ => (by kernel_rfl) ), ⟨(by kernel_rfl), ⟨(by omega), ⟨(by omega), ⟨(by omega), ⟨(fun _ _ => ⟨rfl, (does_bool hs1 (Go.Avm.Pack.c_IsSorted _ _ _ _ (by omega)))⟩), ⟨(by omega), ⟨(by omega), ⟨(by omega), ⟨(by omega), ⟨(by omega), ⟨(by omega), ⟨(by omega), ⟨(fun hgd => ⟨rfl, (does_bool hs3 (Go.Avm.Pack.c_ContainsFuncF_int _ _ _ _ _ _ _ _ _ _ (by omega) (by kernel_rfl) (fun r _ => (does_subT (T := LT) inferInstance [2] 3 (fun R _ g => Go.Avm.Pack.c_Lost1 R (r) (List.getD x.l i default) g) rfl rfl rfl (by exact ⟨⟨rfl, Nat.le_refl _, fun j hj => match j, hj with | 0, _ => (Le.refl _) ⟩, trivial⟩) (by exact ⟨by omega, trivial⟩) (by exact ⟨le_ren (by exact trivial), ⟨(Le.refl _), trivial⟩⟩) (by exact le_unren (by exact trivial)) (by exact ⟨LeO.rflc, ⟨LeO.rflc, ⟨⟨rfl, Nat.le_refl _, fun j hj => match j, hj with | 0, _ => (Le.refl _) ⟩, trivial⟩⟩⟩)))))⟩), ⟨fun c2 => have c2 : (false = true ∨ (↑(List.length (L i).l) : Int) > (↑(List.length (List.getD x.l i default).l) : Int)) ∧ true = true := ⟨((cO_t (cA_t c2).1).imp (fun h => h) (fun h => (of_decide_eq_true h))), (cA_t c2).2⟩; ?_, fun c2 => have c2 : false = false ∧ ¬(↑(List.length (L i).l) : Int) > (↑(List.length (List.getD x.l i default).l) : Int) ∨ true = false := ((cA_f c2).imp (fun h => ⟨(cO_f h).1, (of_decide_eq_false (cO_f h).2)⟩) (fun h => h)); ⟨(by omega), ?_⟩⟩⟩⟩⟩⟩⟩⟩⟩⟩⟩⟩⟩⟩⟩⟩⟩⟩⟩, fun c1 => have c1 : ¬(↑i : Int) < (↑(List.length x.l) : Int) := (of_decide_eq_false c1); ?_⟩
          · exfalso
            have := hS2 i (by omega)
            rcases c2.1 with h | h
            · cases h
            · omega
          · refine (next_round (i + 1) (to_sel [0, 1] 3 rfl rfl rfl rfl rfl ⟨(Le.refl _), ⟨(Le.refl _), ⟨(Le.refl _), ⟨(Le.refl _), ⟨(Le.refl _), trivial⟩⟩⟩⟩⟩ ⟨⟨rfl, Nat.le_refl _, fun j hj => match j, hj with | 0, _ => (Le.refl _) ⟩, ⟨⟨rfl, Nat.le_refl _, fun j hj => match j, hj with | 0, _ => (Le.refl _) ⟩, trivial⟩⟩) ?_ ?_)
            · omega
            · omega
          · refine ⟨_, To.refl _, vcQ [] (lkL [(12, [1, 3, 72, 73, 74])]) (fun _ => []) (fun (Q : AEx → St R.σ → Prop) => 1 ≤ 1 ∧ Wp Tryd.prog R 116 0 Rd.top (bodyOf Tryd.prog 5) [1, 1, 1, 1, 1, 0, 1, 0] (contQ Tryd.prog R 116 0 Rd.top (bodyOf Tryd.prog 5) Q [Kont.blk 2, Kont.seq [1, 1, 1, 1, 1, 1]]) (St.mk [(1, ref 0 0), (3, ref 1 0), (72, encPacks x), (73, int i64 (↑(List.length x.l) : Int)), (74, int i64 0)] [cells false 1 (nth [encPacks x]), cells false 1 (nth [encLs (List.length x.l) L])] g)) (fun _ => by kernel_rfl) ⟨(by omega), ?_⟩⟩
            refine (wp_loop (by kernel_rfl) (fun (i : Nat) => ⟨[(1, ref 0 0), (3, ref 1 0), (72, encPacks x), (73, int i64 (↑(List.length x.l) : Int)), (74, .int .i64 i)], [cells false 1 (nth [encPacks x]), cells false 1 (nth [encLs (List.length x.l) L])], g⟩) (fun (i : Nat) => (i ≤ x.l.length)) (fun (i : Nat) => (x.l.length - i)) 0 (to_fr ⟨(Le.refl _), ⟨(Le.refl _), ⟨(Le.refl _), ⟨(Le.refl _), ⟨(Le.of_eq (by kernel_rfl)), trivial⟩⟩⟩⟩⟩ rfl rfl) ?_ (fun i hi => ?_))
            · omega
            · have hi2 := hi
              refine vcQ [] (lkL [(13, [1, 3, 72, 73, 74, 75]), (14, [1, 3, 7, 8, 72, 73, 74]), (15, [1, 3, 7, 72, 73, 74, 79, 80, 81])]) (lkL [(14, [(4, ROrc.val (Orc.obj (nth [int i64 (↑i : Int)])))])]) (fun (Q : AEx → St R.σ → Prop) => (decide ((↑i : Int) < (↑(List.length x.l) : Int)) = true → (0 ≤ (↑i : Int) ∧ (↑i : Int) < (↑(List.length x.l) : Int)) ∧ 1 ≤ 1 ∧ 1 ≤ 1 ∧ (∀ (c : Nat), c < 1 → nth [int i64 (↑i : Int)] c = over (fun (a : Nat) => int i64 0) 0 1 (fun (x : Nat) => int i64 (↑i : Int)) c) ∧ Wp Tryd.prog R 116 0 Rd.top (bodyOf Tryd.prog 5) [1, 1, 1, 1, 1, 0, 1, 0, 0, 1, 1, 0, 0, 1, 1, 0] (contQ Tryd.prog R 116 0 Rd.top (bodyOf Tryd.prog 5) Q [Kont.blk 4, Kont.blk 3, Kont.seq [1, 1, 1, 1, 1, 0, 1, 0, 0, 1, 1, 1]]) (St.mk [(1, ref 0 0), (3, ref 1 0), (7, ref 2 0), (72, encPacks x), (73, int i64 (↑(List.length x.l) : Int)), (74, int i64 (↑i : Int)), (79, encRels (List.getD x.l i default)), (80, int i64 (↑(List.length (List.getD x.l i default).l) : Int)), (81, int i64 0)] [cells false 1 (nth [encPacks x]), cells false 1 (nth [encLs (List.length x.l) L]), cells false 1 (nth [int i64 (↑i : Int)])] g)) ∧ (decide ((↑i : Int) < (↑(List.length x.l) : Int)) = false → Q (AEx.exit 2) (St.mk [(1, ref 0 0), (3, ref 1 0), (72, encPacks x), (73, int i64 (↑(List.length x.l) : Int)), (74, int i64 (↑i : Int)), (75, AV.bool (decide ((↑i : Int) < (↑(List.length x.l) : Int))))] [cells false 1 (nth [encPacks x]), cells false 1 (nth [encLs (List.length x.l) L])] g))) (fun _ => by kernel_rfl) ⟨fun c1 => have c1 : (↑i : Int) < (↑(List.length x.l) : Int) := (of_decide_eq_true c1); ⟨(by omega), ⟨(by omega), ⟨(by omega), ⟨(fun c hc => match c, hc with | 0, _ => (by kernel_rfl) ), ?_⟩⟩⟩⟩, fun c1 => have c1 : ¬(↑i : Int) < (↑(List.length x.l) : Int) := (of_decide_eq_false c1); ?_⟩
              · refine (wp_loop (by kernel_rfl) (fun (k : Nat) => ⟨[(1, ref 0 0), (3, ref 1 0), (7, ref 2 0), (72, encPacks x), (73, int i64 (↑(List.length x.l) : Int)), (74, int i64 (↑i : Int)), (79, encRels (List.getD x.l i default)), (80, int i64 (↑(List.length (List.getD x.l i default).l) : Int)), (81, .int .i64 k)], [cells false 1 (nth [encPacks x]), cells false 1 (nth [encLs (List.length x.l) L]), cells false 1 (nth [int i64 (↑i : Int)])], g⟩) (fun (k : Nat) => (k ≤ (x.l.getD i default).l.length)) (fun (k : Nat) => ((x.l.getD i default).l.length - k)) 0 (to_fr ⟨(Le.refl _), ⟨(Le.refl _), ⟨(Le.refl _), ⟨(Le.refl _), ⟨(Le.refl _), ⟨(Le.refl _), ⟨(Le.refl _), ⟨(Le.refl _), ⟨(Le.of_eq (by kernel_rfl)), trivial⟩⟩⟩⟩⟩⟩⟩⟩⟩ rfl rfl) ?_ (fun k hi => ?_))
                · omega
                · rcases Nat.lt_or_ge k (x.l.getD i default).l.length with hk | hk
                  · have h5 := formed_five hx (show i < x.l.length by omega)
                    have hrl := rel_len hx (i := i) (k := k) (by omega) (by rw [Int.toNat_natCast]; omega)
                    simp only [Int.toNat_natCast] at hrl
                    have hlen := hLl i
                    have hany : ((x.l.getD i default).l.getD k default).needs.l.any (fun rg => !(L rg.pack.toNat).l.any (okV x i k rg)) = !decide (k ∈ memS (trimL x i)) := lost_any hx hL (by omega) hk
                    have hcon : (L i).l.any (eqZ k) = decide (k ∈ memS (trimL x i)) := by rw [hL]; exact left_has
                    obtain ⟨gl, hgl⟩ : ∃ gl : KL Rng, gl = ⟨[⟨i, k, k⟩], .exa⟩ := ⟨_, rfl⟩
                    have hgll : gl.l.length < 1000000 := by rw [hgl]; show 1 < 1000000; omega
                    have hne : ((!decide (k ∈ memS (trimL x i))) == decide (k ∈ memS (trimL x i))) = false := by cases decide (k ∈ memS (trimL x i)) <;> rfl
                    have hq2 : ((((x.l.getD i default).l.getD k default).needs.l.any fun rg => !(L rg.pack.toNat).l.any (okV x i k rg)) == (L i).l.any (eqZ k)) = false := by rw [hany, hcon]; exact hne
                    cases hd : decide (k ∈ memS (trimL x i)) with
                    | true =>
                      have ha : (((x.l.getD i default).l.getD k default).needs.l.any fun rg => !(L rg.pack.toNat).l.any (okV x i k rg)) = false := by rw [hany, hd]; rfl
                      have hq3 : (false == (L i).l.any (eqZ k)) = false := by rw [hcon, hd]; rfl
                      refine vcQ [] (lkL [(16, [1, 3, 7, 72, 73, 74, 79, 80, 81, 82]), (17, [1, 3, 7, 9, 10, 72, 73, 74, 79, 80, 81]), (18, [1, 3, 7, 9, 11, 72, 73, 74, 79, 80, 81]), (19, [1, 3, 7, 9, 11, 72, 73, 74, 79, 80, 81, 97]), (20, [2]), (21, [1, 3, 7, 9, 72, 73, 74, 79, 80, 81, 99]), (22, [1, 3, 7, 13, 72, 73, 74, 79, 80, 81]), (25, [1, 3, 7, 72, 73, 74, 79, 80, 81])]) (lkL [(17, [(5, ROrc.val (Orc.obj (nth [int i64 (↑k : Int)]))), (6, ROrc.val (Orc.obj (nth [encR (List.getD (List.getD x.l i default).l k default).needs, encR (List.getD (List.getD x.l i default).l k default).bars])))]), (18, [(3, ROrc.kcall (AV.bool false))]), (19, [(6, ROrc.pcall (AV.bool (List.any (L i).l (eqZ (↑k : Int)))))]), (22, [(4, ROrc.pcall (encRng (Rng.mk (↑i : Int) (↑k : Int) (↑k : Int))))])]) (fun (Q : AEx → St R.σ → Prop) => (decide ((↑k : Int) < (↑(List.length (List.getD x.l i default).l) : Int)) = true → (0 ≤ (↑k : Int) ∧ (↑k : Int) < (↑(List.length (List.getD x.l i default).l) : Int)) ∧ 2 ≤ 2 ∧ 1 ≤ 1 ∧ (∀ (c : Nat), c < 1 → nth [int i64 (↑k : Int)] c = over (fun (a : Nat) => int i64 0) 0 1 (fun (x : Nat) => int i64 (↑k : Int)) c) ∧ 2 ≤ 2 ∧ (∀ (c : Nat), c < 2 → nth [encR (List.getD (List.getD x.l i default).l k default).needs, encR (List.getD (List.getD x.l i default).l k default).bars] c = over (nth [fz Fz.nil 0 0 fun (x x_2 : Nat) => any, fz Fz.nil 0 0 fun (x x_2 : Nat) => any]) 0 2 (List.brecOn (motive := fun (x : List AV) => Nat → AV) [encR (List.getD (List.getD x.l i default).l k default).needs, encR (List.getD (List.getD x.l i default).l k default).bars] nth._f) c) ∧ 1 ≤ 2 ∧ (true = true ∧ Does Tryd.prog R 24 [encR (List.getD (List.getD x.l i default).l k default).needs, fn 25 0 (nth []) 4 (nth [ref 1 0, ref 0 0, ref 2 0, ref 3 0])] [cells false 1 (nth [encPacks x]), cells false 1 (nth [encLs (List.length x.l) L]), cells false 1 (nth [int i64 (↑i : Int)]), cells false 1 (nth [int i64 (↑k : Int)]), cells false 2 (nth [encR (List.getD (List.getD x.l i default).l k default).needs, encR (List.getD (List.getD x.l i default).l k default).bars])] g (ret (AV.bool false)) [cells false 1 (nth [encPacks x]), cells false 1 (nth [encLs (List.length x.l) L]), cells false 1 (nth [int i64 (↑i : Int)]), cells false 1 (nth [int i64 (↑k : Int)]), cells false 2 (nth [encR (List.getD (List.getD x.l i default).l k default).needs, encR (List.getD (List.getD x.l i default).l k default).bars])] g) ∧ Tables.follows Tryd.prog.toTables Departure.mixedOrders = true ∧ 1 ≤ 1 ∧ 1 ≤ 1 ∧ (0 ≤ (↑i : Int) ∧ (↑i : Int) < (↑(List.length x.l) : Int)) ∧ 1 ≤ 1 ∧ 1 ≤ 1 ∧ (∀ (hp : List AObj) (g : R.σ), true = true ∧ Does Tryd.prog R 28 [encI (L i), int i64 (↑k : Int)] hp g (ret (AV.bool (List.any (L i).l (eqZ (↑k : Int))))) hp g) ∧ ((false == List.any (L i).l (eqZ (↑k : Int))) = true → Q AEx.ret (St.mk [(2, AV.bool false)] [cells false 1 (nth [encPacks x]), cells false 1 (nth [encLs (List.length x.l) L]), cells false 1 (nth [int i64 (↑i : Int)]), cells false 1 (nth [int i64 (↑k : Int)]), cells false 2 (nth [encR (List.getD (List.getD x.l i default).l k default).needs, encR (List.getD (List.getD x.l i default).l k default).bars])] g)) ∧ ((false == List.any (L i).l (eqZ (↑k : Int))) = false → (true = true → (-9223372036854775808 ≤ (↑k : Int) + 1 ∧ (↑k : Int) + 1 ≤ 9223372036854775807) ∧ Q AEx.normal (St.mk [(1, ref 0 0), (3, ref 1 0), (7, ref 2 0), (72, encPacks x), (73, int i64 (↑(List.length x.l) : Int)), (74, int i64 (↑i : Int)), (79, encRels (List.getD x.l i default)), (80, int i64 (↑(List.length (List.getD x.l i default).l) : Int)), (81, int i64 ((↑k : Int) + 1))] [cells false 1 (nth [encPacks x]), cells false 1 (nth [encLs (List.length x.l) L]), cells false 1 (nth [int i64 (↑i : Int)]), cells false 1 (nth [int i64 (↑k : Int)]), cells false 2 (nth [encR (List.getD (List.getD x.l i default).l k default).needs, encR (List.getD (List.getD x.l i default).l k default).bars])] g)) ∧ (true = false → False))) ∧ (decide ((↑k : Int) < (↑(List.length (List.getD x.l i default).l) : Int)) = false → Q (AEx.exit 4) (St.mk [(1, ref 0 0), (3, ref 1 0), (7, ref 2 0), (72, encPacks x), (73, int i64 (↑(List.length x.l) : Int)), (74, int i64 (↑i : Int)), (79, encRels (List.getD x.l i default)), (80, int i64 (↑(List.length (List.getD x.l i default).l) : Int)), (81, int i64 (↑k : Int)), (82, AV.bool (decide ((↑k : Int) < (↑(List.length (List.getD x.l i default).l) : Int))))] [cells false 1 (nth [encPacks x]), cells false 1 (nth [encLs (List.length x.l) L]), cells false 1 (nth [int i64 (↑i : Int)])] g))) (fun _ => by kernel_rfl) ⟨fun c1 => have c1 : (↑k : Int) < (↑(List.length (List.getD x.l i default).l) : Int) := (of_decide_eq_true c1); ⟨(by omega), ⟨(by omega), ⟨(by omega), ⟨(fun c hc => match c, hc with | 0, _ => (by kernel_rfl) ), ⟨(by omega), ⟨(fun c hc => match c, hc with | 0, _ => (by kernel_rfl) | 1, _ => (by kernel_rfl) ), ⟨(by omega), ⟨⟨rfl, (does_bool ha (Go.Avm.Pack.c_ContainsFuncF_PackRange _ _ _ _ _ _ _ _ _ _ (by omega) (by kernel_rfl) (fun r _ => (does_subT (T := LT) inferInstance [1, 0, 2, 3] 5 (fun R _ g => Go.Avm.Pack.c_Lost2 R (x) (L) (r) ((↑i : Int)) ((↑k : Int)) g (by omega) (by omega) (by omega) (by omega) (by simp at * <;> omega) ?_) rfl rfl rfl (by exact ⟨⟨rfl, Nat.le_refl _, fun j hj => match j, hj with | 0, _ => (Le.refl _) ⟩, ⟨⟨rfl, Nat.le_refl _, fun j hj => match j, hj with | 0, _ => (Le.refl _) ⟩, ⟨⟨rfl, Nat.le_refl _, fun j hj => match j, hj with | 0, _ => (Le.refl _) ⟩, ⟨⟨rfl, Nat.le_refl _, fun j hj => match j, hj with | 0, _ => (Le.refl _) ⟩, trivial⟩⟩⟩⟩) (by exact ⟨by omega, ⟨by omega, ⟨by omega, ⟨by omega, trivial⟩⟩⟩⟩) (by exact ⟨le_ren (by exact ⟨⟨⟨trivial, trivial⟩, trivial⟩, trivial⟩), ⟨(Le.refl _), ⟨(Le.refl _), ⟨(Le.refl _), ⟨(Le.refl _), trivial⟩⟩⟩⟩⟩) (by exact le_unren (by exact trivial)) (by exact ⟨⟨rfl, Nat.le_refl _, fun j hj => match j, hj with | 0, _ => (Le.refl _) ⟩, ⟨⟨rfl, Nat.le_refl _, fun j hj => match j, hj with | 0, _ => (Le.refl _) ⟩, ⟨⟨rfl, Nat.le_refl _, fun j hj => match j, hj with | 0, _ => (Le.refl _) ⟩, ⟨⟨rfl, Nat.le_refl _, fun j hj => match j, hj with | 0, _ => (Le.refl _) ⟩, ⟨LeO.rflc, trivial⟩⟩⟩⟩⟩)))))⟩, ⟨(by kernel_rfl), ⟨(by omega), ⟨(by omega), ⟨(by omega), ⟨(by omega), ⟨(by omega), ⟨(fun _ _ => ⟨rfl, (Go.Avm.Pack.c_Contains_int _ _ _ _ _ (by omega))⟩), ⟨fun hcc => (nomatch (hq3.symm.trans hcc)), fun _ => ⟨fun _ => ⟨(by omega), ?_⟩, fun h => (nomatch h)⟩⟩⟩⟩⟩⟩⟩⟩⟩⟩⟩⟩⟩⟩⟩⟩⟩, fun c1 => have c1 : ¬(↑k : Int) < (↑(List.length (List.getD x.l i default).l) : Int) := (of_decide_eq_false c1); ?_⟩
                      · exact need_pack hx (show i < x.l.length by omega) hk _ (by assumption)
                      · refine (next_round (k + 1) (to_sel [0, 1, 2] 5 rfl rfl rfl rfl rfl ⟨(Le.refl _), ⟨(Le.refl _), ⟨(Le.refl _), ⟨(Le.refl _), ⟨(Le.refl _), ⟨(Le.refl _), ⟨(Le.refl _), ⟨(Le.refl _), ⟨(Le.refl _), trivial⟩⟩⟩⟩⟩⟩⟩⟩⟩ ⟨⟨rfl, Nat.le_refl _, fun j hj => match j, hj with | 0, _ => (Le.refl _) ⟩, ⟨⟨rfl, Nat.le_refl _, fun j hj => match j, hj with | 0, _ => (Le.refl _) ⟩, ⟨⟨rfl, Nat.le_refl _, fun j hj => match j, hj with | 0, _ => (Le.refl _) ⟩, trivial⟩⟩⟩) ?_ ?_)
                        · omega
                        · omega
                      · exfalso; omega
                    | false =>
                      have ha : (((x.l.getD i default).l.getD k default).needs.l.any fun rg => !(L rg.pack.toNat).l.any (okV x i k rg)) = true := by rw [hany, hd]; rfl
                      have hq3 : (true == (L i).l.any (eqZ k)) = false := by rw [hcon, hd]; rfl
                      have hb : bestR x gl.l = ([], 5) := by rw [hgl]; exact best_lost hx (by omega) hk (of_decide_eq_false hd)
                      refine vcQ [] (lkL [(16, [1, 3, 7, 72, 73, 74, 79, 80, 81, 82]), (17, [1, 3, 7, 9, 10, 72, 73, 74, 79, 80, 81]), (18, [1, 3, 7, 9, 11, 72, 73, 74, 79, 80, 81]), (19, [1, 3, 7, 9, 11, 72, 73, 74, 79, 80, 81, 97]), (20, [2]), (21, [1, 3, 7, 9, 72, 73, 74, 79, 80, 81, 99]), (22, [1, 3, 7, 13, 72, 73, 74, 79, 80, 81]), (23, [1, 3, 7, 72, 73, 74, 79, 80, 81, 112]), (24, [2]), (25, [1, 3, 7, 72, 73, 74, 79, 80, 81])]) (lkL [(17, [(5, ROrc.val (Orc.obj (nth [int i64 (↑k : Int)]))), (6, ROrc.val (Orc.obj (nth [encR (List.getD (List.getD x.l i default).l k default).needs, encR (List.getD (List.getD x.l i default).l k default).bars])))]), (18, [(3, ROrc.kcall (AV.bool true))]), (19, [(6, ROrc.pcall (AV.bool (List.any (L i).l (eqZ (↑k : Int)))))]), (22, [(4, ROrc.pcall (encRng (Rng.mk (↑i : Int) (↑k : Int) (↑k : Int)))), (5, ROrc.kop (encR gl)), (6, ROrc.pcall (encR gl)), (7, ROrc.pcall (tup 2 (nth [encI (KL.mk (bestR x gl.l).fst Fz.auto), int i64 (bestR x gl.l).snd])))])]) (fun (Q : AEx → St R.σ → Prop) => (decide ((↑k : Int) < (↑(List.length (List.getD x.l i default).l) : Int)) = true → (0 ≤ (↑k : Int) ∧ (↑k : Int) < (↑(List.length (List.getD x.l i default).l) : Int)) ∧ 2 ≤ 2 ∧ 1 ≤ 1 ∧ (∀ (c : Nat), c < 1 → nth [int i64 (↑k : Int)] c = over (fun (a : Nat) => int i64 0) 0 1 (fun (x : Nat) => int i64 (↑k : Int)) c) ∧ 2 ≤ 2 ∧ (∀ (c : Nat), c < 2 → nth [encR (List.getD (List.getD x.l i default).l k default).needs, encR (List.getD (List.getD x.l i default).l k default).bars] c = over (nth [fz Fz.nil 0 0 fun (x x_2 : Nat) => any, fz Fz.nil 0 0 fun (x x_2 : Nat) => any]) 0 2 (List.brecOn (motive := fun (x : List AV) => Nat → AV) [encR (List.getD (List.getD x.l i default).l k default).needs, encR (List.getD (List.getD x.l i default).l k default).bars] nth._f) c) ∧ 1 ≤ 2 ∧ (true = true ∧ Does Tryd.prog R 24 [encR (List.getD (List.getD x.l i default).l k default).needs, fn 25 0 (nth []) 4 (nth [ref 1 0, ref 0 0, ref 2 0, ref 3 0])] [cells false 1 (nth [encPacks x]), cells false 1 (nth [encLs (List.length x.l) L]), cells false 1 (nth [int i64 (↑i : Int)]), cells false 1 (nth [int i64 (↑k : Int)]), cells false 2 (nth [encR (List.getD (List.getD x.l i default).l k default).needs, encR (List.getD (List.getD x.l i default).l k default).bars])] g (ret (AV.bool true)) [cells false 1 (nth [encPacks x]), cells false 1 (nth [encLs (List.length x.l) L]), cells false 1 (nth [int i64 (↑i : Int)]), cells false 1 (nth [int i64 (↑k : Int)]), cells false 2 (nth [encR (List.getD (List.getD x.l i default).l k default).needs, encR (List.getD (List.getD x.l i default).l k default).bars])] g) ∧ Tables.follows Tryd.prog.toTables Departure.mixedOrders = true ∧ 1 ≤ 1 ∧ 1 ≤ 1 ∧ (0 ≤ (↑i : Int) ∧ (↑i : Int) < (↑(List.length x.l) : Int)) ∧ 1 ≤ 1 ∧ 1 ≤ 1 ∧ (∀ (hp : List AObj) (g : R.σ), true = true ∧ Does Tryd.prog R 28 [encI (L i), int i64 (↑k : Int)] hp g (ret (AV.bool (List.any (L i).l (eqZ (↑k : Int))))) hp g) ∧ ((true == List.any (L i).l (eqZ (↑k : Int))) = true → Q AEx.ret (St.mk [(2, AV.bool false)] [cells false 1 (nth [encPacks x]), cells false 1 (nth [encLs (List.length x.l) L]), cells false 1 (nth [int i64 (↑i : Int)]), cells false 1 (nth [int i64 (↑k : Int)]), cells false 2 (nth [encR (List.getD (List.getD x.l i default).l k default).needs, encR (List.getD (List.getD x.l i default).l k default).bars])] g)) ∧ ((true == List.any (L i).l (eqZ (↑k : Int))) = false → (false = true → (-9223372036854775808 ≤ (↑k : Int) + 1 ∧ (↑k : Int) + 1 ≤ 9223372036854775807) ∧ Q AEx.normal (St.mk [(1, ref 0 0), (3, ref 1 0), (7, ref 2 0), (72, encPacks x), (73, int i64 (↑(List.length x.l) : Int)), (74, int i64 (↑i : Int)), (79, encRels (List.getD x.l i default)), (80, int i64 (↑(List.length (List.getD x.l i default).l) : Int)), (81, int i64 ((↑k : Int) + 1))] [cells false 1 (nth [encPacks x]), cells false 1 (nth [encLs (List.length x.l) L]), cells false 1 (nth [int i64 (↑i : Int)]), cells false 1 (nth [int i64 (↑k : Int)]), cells false 2 (nth [encR (List.getD (List.getD x.l i default).l k default).needs, encR (List.getD (List.getD x.l i default).l k default).bars])] g)) ∧ (false = false → Tables.follows Tryd.prog.toTables Departure.mixedOrders = true ∧ 1 ≤ 1 ∧ 1 ≤ 1 ∧ 1 ≤ 1 ∧ 1 ≤ 1 ∧ (∀ (hp : List AObj) (g : R.σ), true = true ∧ Does Tryd.prog R 14 [int i64 (↑i : Int), int i64 (↑k : Int), int i64 (↑k : Int)] hp g (ret (agg 3 (nth [int i64 (↑i : Int), int i64 (↑k : Int), int i64 (↑k : Int)]))) hp g) ∧ OpOk Tryd.prog R (Oper.mk (some 106) (Op.buildSlice 34 1 #[(0, Operand.tmp 105)]) 34 "outright.go:268" #[Edge.mk 4 Ground.data] none) (evO [Row.mk (some 105) none (agg 3 (nth [int i64 (↑i : Int), int i64 (↑k : Int), int i64 (↑k : Int)])) false (some []) [], Row.mk (some 104) none (int i64 (↑k : Int)) false (some []) [3], Row.mk (some 103) none (int i64 (↑k : Int)) false (some []) [3], Row.mk (some 102) none (int i64 (↑i : Int)) false (some []) [2], Row.mk (some 101) none (encIx x) false (some []) [0]] [(1, ref 0 0), (3, ref 1 0), (7, ref 2 0), (9, ref 3 0), (72, encPacks x), (73, int i64 (↑(List.length x.l) : Int)), (74, int i64 (↑i : Int)), (79, encRels (List.getD x.l i default)), (80, int i64 (↑(List.length (List.getD x.l i default).l) : Int)), (81, int i64 (↑k : Int)), (99, AV.bool false)] []) [cells false 1 (nth [encPacks x]), cells false 1 (nth [encLs (List.length x.l) L]), cells false 1 (nth [int i64 (↑i : Int)]), cells false 1 (nth [int i64 (↑k : Int)]), cells false 2 (nth [encR (List.getD (List.getD x.l i default).l k default).needs, encR (List.getD (List.getD x.l i default).l k default).bars])] g (encR gl) [cells false 1 (nth [encPacks x]), cells false 1 (nth [encLs (List.length x.l) L]), cells false 1 (nth [int i64 (↑i : Int)]), cells false 1 (nth [int i64 (↑k : Int)]), cells false 2 (nth [encR (List.getD (List.getD x.l i default).l k default).needs, encR (List.getD (List.getD x.l i default).l k default).bars])] g ∧ (∀ (hp : List AObj) (g : R.σ), true = true ∧ Does Tryd.prog R 13 [encR gl] hp g (ret (encR gl)) hp g) ∧ (∀ (hp : List AObj) (g : R.σ), true = true ∧ Does Tryd.prog R 17 [encIx x, encR gl] hp g (ret (tup 2 (nth [fz Fz.auto 1 (List.length (bestR x gl.l).fst) fun (i x_4 : Nat) => int i64 (List.getD (bestR x gl.l).fst i 0), int i64 (bestR x gl.l).snd]))) hp g) ∧ (((bestR x gl.l).snd != 5) = true → Q AEx.ret (St.mk [(2, AV.bool false)] [cells false 1 (nth [encPacks x]), cells false 1 (nth [encLs (List.length x.l) L]), cells false 1 (nth [int i64 (↑i : Int)]), cells false 1 (nth [int i64 (↑k : Int)]), cells false 2 (nth [encR (List.getD (List.getD x.l i default).l k default).needs, encR (List.getD (List.getD x.l i default).l k default).bars])] g)) ∧ (((bestR x gl.l).snd != 5) = false → (-9223372036854775808 ≤ (↑k : Int) + 1 ∧ (↑k : Int) + 1 ≤ 9223372036854775807) ∧ Q AEx.normal (St.mk [(1, ref 0 0), (3, ref 1 0), (7, ref 2 0), (72, encPacks x), (73, int i64 (↑(List.length x.l) : Int)), (74, int i64 (↑i : Int)), (79, encRels (List.getD x.l i default)), (80, int i64 (↑(List.length (List.getD x.l i default).l) : Int)), (81, int i64 ((↑k : Int) + 1))] [cells false 1 (nth [encPacks x]), cells false 1 (nth [encLs (List.length x.l) L]), cells false 1 (nth [int i64 (↑i : Int)]), cells false 1 (nth [int i64 (↑k : Int)]), cells false 2 (nth [encR (List.getD (List.getD x.l i default).l k default).needs, encR (List.getD (List.getD x.l i default).l k default).bars])] g))))) ∧ (decide ((↑k : Int) < (↑(List.length (List.getD x.l i default).l) : Int)) = false → Q (AEx.exit 4) (St.mk [(1, ref 0 0), (3, ref 1 0), (7, ref 2 0), (72, encPacks x), (73, int i64 (↑(List.length x.l) : Int)), (74, int i64 (↑i : Int)), (79, encRels (List.getD x.l i default)), (80, int i64 (↑(List.length (List.getD x.l i default).l) : Int)), (81, int i64 (↑k : Int)), (82, AV.bool (decide ((↑k : Int) < (↑(List.length (List.getD x.l i default).l) : Int))))] [cells false 1 (nth [encPacks x]), cells false 1 (nth [encLs (List.length x.l) L]), cells false 1 (nth [int i64 (↑i : Int)])] g))) (fun _ => by kernel_rfl) ⟨fun c1 => have c1 : (↑k : Int) < (↑(List.length (List.getD x.l i default).l) : Int) := (of_decide_eq_true c1); ⟨(by omega), ⟨(by omega), ⟨(by omega), ⟨(fun c hc => match c, hc with | 0, _ => (by kernel_rfl) ), ⟨(by omega), ⟨(fun c hc => match c, hc with | 0, _ => (by kernel_rfl) | 1, _ => (by kernel_rfl) ), ⟨(by omega), ⟨⟨rfl, (does_bool ha (Go.Avm.Pack.c_ContainsFuncF_PackRange _ _ _ _ _ _ _ _ _ _ (by omega) (by kernel_rfl) (fun r _ => (does_subT (T := LT) inferInstance [1, 0, 2, 3] 5 (fun R _ g => Go.Avm.Pack.c_Lost2 R (x) (L) (r) ((↑i : Int)) ((↑k : Int)) g (by omega) (by omega) (by omega) (by omega) (by simp at * <;> omega) ?_) rfl rfl rfl (by exact ⟨⟨rfl, Nat.le_refl _, fun j hj => match j, hj with | 0, _ => (Le.refl _) ⟩, ⟨⟨rfl, Nat.le_refl _, fun j hj => match j, hj with | 0, _ => (Le.refl _) ⟩, ⟨⟨rfl, Nat.le_refl _, fun j hj => match j, hj with | 0, _ => (Le.refl _) ⟩, ⟨⟨rfl, Nat.le_refl _, fun j hj => match j, hj with | 0, _ => (Le.refl _) ⟩, trivial⟩⟩⟩⟩) (by exact ⟨by omega, ⟨by omega, ⟨by omega, ⟨by omega, trivial⟩⟩⟩⟩) (by exact ⟨le_ren (by exact ⟨⟨⟨trivial, trivial⟩, trivial⟩, trivial⟩), ⟨(Le.refl _), ⟨(Le.refl _), ⟨(Le.refl _), ⟨(Le.refl _), trivial⟩⟩⟩⟩⟩) (by exact le_unren (by exact trivial)) (by exact ⟨⟨rfl, Nat.le_refl _, fun j hj => match j, hj with | 0, _ => (Le.refl _) ⟩, ⟨⟨rfl, Nat.le_refl _, fun j hj => match j, hj with | 0, _ => (Le.refl _) ⟩, ⟨⟨rfl, Nat.le_refl _, fun j hj => match j, hj with | 0, _ => (Le.refl _) ⟩, ⟨⟨rfl, Nat.le_refl _, fun j hj => match j, hj with | 0, _ => (Le.refl _) ⟩, ⟨LeO.rflc, trivial⟩⟩⟩⟩⟩)))))⟩, ⟨(by kernel_rfl), ⟨(by omega), ⟨(by omega), ⟨(by omega), ⟨(by omega), ⟨(by omega), ⟨(fun _ _ => ⟨rfl, (Go.Avm.Pack.c_Contains_int _ _ _ _ _ (by omega))⟩), ⟨fun hcc => (nomatch (hq3.symm.trans hcc)), fun _ => ⟨fun h => (nomatch h), fun _ => ⟨(by kernel_rfl), ⟨(by omega), ⟨(by omega), ⟨(by omega), ⟨(by omega), ⟨(fun _ _ => ⟨rfl, (Go.Avm.Pack.c_span _ _ _ _ _ _)⟩), ⟨?_, ⟨(fun _ _ => ⟨rfl, (Go.Avm.Pack.c_goals _ _ _ _)⟩), ⟨(fun _ _ => ⟨rfl, (Go.Avm.Pack.c_Best _ _ _ _ _ (by omega) (by omega))⟩), ⟨fun c2 => have c2 : ¬(bestR x gl.l).snd = 5 := (bne_iff_ne.mp c2); ?_, fun c2 => have c2 : (bestR x gl.l).snd = 5 := (bne_eq_false_iff_eq.mp c2); ⟨(by omega), ?_⟩⟩⟩⟩⟩⟩⟩⟩⟩⟩⟩⟩⟩⟩⟩⟩⟩⟩⟩⟩⟩⟩⟩⟩⟩⟩⟩⟩, fun c1 => have c1 : ¬(↑k : Int) < (↑(List.length (List.getD x.l i default).l) : Int) := (of_decide_eq_false c1); ?_⟩
                      · exact need_pack hx (show i < x.l.length by omega) hk _ (by assumption)
                      · subst hgl; exact opOk_litB (n := 1) (es := 3) (by kernel_rfl) (by exact ⟨⟨⟨⟨trivial, trivial⟩, trivial⟩, trivial⟩, trivial⟩) rfl rfl (fun i hi j hj => match i, hi, j, hj with | 0, _, 0, _ => (by kernel_rfl) | 0, _, 1, _ => (by kernel_rfl) | 0, _, 2, _ => (by kernel_rfl) ) (fun i hi j hj => match i, hi, j, hj with | 0, _, 0, _ => trivial | 0, _, 1, _ => trivial | 0, _, 2, _ => trivial )
                      · exfalso
                        rw [hb] at c2
                        exact c2 rfl
                      · refine (next_round (k + 1) (to_sel [0, 1, 2] 5 rfl rfl rfl rfl rfl ⟨(Le.refl _), ⟨(Le.refl _), ⟨(Le.refl _), ⟨(Le.refl _), ⟨(Le.refl _), ⟨(Le.refl _), ⟨(Le.refl _), ⟨(Le.refl _), ⟨(Le.refl _), trivial⟩⟩⟩⟩⟩⟩⟩⟩⟩ ⟨⟨rfl, Nat.le_refl _, fun j hj => match j, hj with | 0, _ => (Le.refl _) ⟩, ⟨⟨rfl, Nat.le_refl _, fun j hj => match j, hj with | 0, _ => (Le.refl _) ⟩, ⟨⟨rfl, Nat.le_refl _, fun j hj => match j, hj with | 0, _ => (Le.refl _) ⟩, trivial⟩⟩⟩) ?_ ?_)
                        · omega
                        · omega
                      · exfalso; omega
                  · have hkf : decide ((k : Int) < ((x.l.getD i default).l.length : Int)) = false := decide_eq_false (by omega)
                    refine vcQ [] (lkL [(16, [1, 3, 7, 72, 73, 74, 79, 80, 81, 82]), (17, [1, 3, 7, 9, 10, 72, 73, 74, 79, 80, 81]), (18, [1, 3, 7, 9, 11, 72, 73, 74, 79, 80, 81]), (19, [1, 3, 7, 9, 11, 72, 73, 74, 79, 80, 81, 97]), (20, [2]), (21, [1, 3, 7, 9, 72, 73, 74, 79, 80, 81, 99]), (22, [1, 3, 7, 13, 72, 73, 74, 79, 80, 81]), (25, [1, 3, 7, 72, 73, 74, 79, 80, 81])]) (lkL [(17, [(5, ROrc.val (Orc.obj (nth [int i64 (↑k : Int)]))), (6, ROrc.val (Orc.obj (nth [encR (List.getD (List.getD x.l i default).l k default).needs, encR (List.getD (List.getD x.l i default).l k default).bars])))]), (18, [(3, ROrc.kcall (AV.bool (List.any (List.getD (List.getD x.l i default).l k default).needs.l fun (r : Rng) => !List.any (L (Int.toNat r.pack)).l (okV x (↑i : Int) (↑k : Int) r))))]), (19, [(6, ROrc.pcall (AV.bool (List.any (L i).l (eqZ (↑k : Int)))))]), (22, [(4, ROrc.pcall (encRng (Rng.mk (↑i : Int) (↑k : Int) (↑k : Int))))])]) (fun (Q : AEx → St R.σ → Prop) => (decide ((↑k : Int) < (↑(List.length (List.getD x.l i default).l) : Int)) = true → (0 ≤ (↑k : Int) ∧ (↑k : Int) < (↑(List.length (List.getD x.l i default).l) : Int)) ∧ 2 ≤ 2 ∧ 1 ≤ 1 ∧ (∀ (c : Nat), c < 1 → nth [int i64 (↑k : Int)] c = over (fun (a : Nat) => int i64 0) 0 1 (fun (x : Nat) => int i64 (↑k : Int)) c) ∧ 2 ≤ 2 ∧ (∀ (c : Nat), c < 2 → nth [encR (List.getD (List.getD x.l i default).l k default).needs, encR (List.getD (List.getD x.l i default).l k default).bars] c = over (nth [fz Fz.nil 0 0 fun (x x_2 : Nat) => any, fz Fz.nil 0 0 fun (x x_2 : Nat) => any]) 0 2 (List.brecOn (motive := fun (x : List AV) => Nat → AV) [encR (List.getD (List.getD x.l i default).l k default).needs, encR (List.getD (List.getD x.l i default).l k default).bars] nth._f) c) ∧ 1 ≤ 2 ∧ (true = true ∧ Does Tryd.prog R 24 [encR (List.getD (List.getD x.l i default).l k default).needs, fn 25 0 (nth []) 4 (nth [ref 1 0, ref 0 0, ref 2 0, ref 3 0])] [cells false 1 (nth [encPacks x]), cells false 1 (nth [encLs (List.length x.l) L]), cells false 1 (nth [int i64 (↑i : Int)]), cells false 1 (nth [int i64 (↑k : Int)]), cells false 2 (nth [encR (List.getD (List.getD x.l i default).l k default).needs, encR (List.getD (List.getD x.l i default).l k default).bars])] g (ret (AV.bool (List.any (List.getD (List.getD x.l i default).l k default).needs.l fun (r : Rng) => !List.any (L (Int.toNat r.pack)).l (okV x (↑i : Int) (↑k : Int) r)))) [cells false 1 (nth [encPacks x]), cells false 1 (nth [encLs (List.length x.l) L]), cells false 1 (nth [int i64 (↑i : Int)]), cells false 1 (nth [int i64 (↑k : Int)]), cells false 2 (nth [encR (List.getD (List.getD x.l i default).l k default).needs, encR (List.getD (List.getD x.l i default).l k default).bars])] g) ∧ Tables.follows Tryd.prog.toTables Departure.mixedOrders = true ∧ 1 ≤ 1 ∧ 1 ≤ 1 ∧ (0 ≤ (↑i : Int) ∧ (↑i : Int) < (↑(List.length x.l) : Int)) ∧ 1 ≤ 1 ∧ 1 ≤ 1 ∧ (∀ (hp : List AObj) (g : R.σ), true = true ∧ Does Tryd.prog R 28 [encI (L i), int i64 (↑k : Int)] hp g (ret (AV.bool (List.any (L i).l (eqZ (↑k : Int))))) hp g) ∧ (((List.any (List.getD (List.getD x.l i default).l k default).needs.l fun (r : Rng) => !List.any (L (Int.toNat r.pack)).l (okV x (↑i : Int) (↑k : Int) r)) == List.any (L i).l (eqZ (↑k : Int))) = true → Q AEx.ret (St.mk [(2, AV.bool false)] [cells false 1 (nth [encPacks x]), cells false 1 (nth [encLs (List.length x.l) L]), cells false 1 (nth [int i64 (↑i : Int)]), cells false 1 (nth [int i64 (↑k : Int)]), cells false 2 (nth [encR (List.getD (List.getD x.l i default).l k default).needs, encR (List.getD (List.getD x.l i default).l k default).bars])] g)) ∧ (((List.any (List.getD (List.getD x.l i default).l k default).needs.l fun (r : Rng) => !List.any (L (Int.toNat r.pack)).l (okV x (↑i : Int) (↑k : Int) r)) == List.any (L i).l (eqZ (↑k : Int))) = false → ((!List.any (List.getD (List.getD x.l i default).l k default).needs.l fun (r : Rng) => !List.any (L (Int.toNat r.pack)).l (okV x (↑i : Int) (↑k : Int) r)) = true → (-9223372036854775808 ≤ (↑k : Int) + 1 ∧ (↑k : Int) + 1 ≤ 9223372036854775807) ∧ Q AEx.normal (St.mk [(1, ref 0 0), (3, ref 1 0), (7, ref 2 0), (72, encPacks x), (73, int i64 (↑(List.length x.l) : Int)), (74, int i64 (↑i : Int)), (79, encRels (List.getD x.l i default)), (80, int i64 (↑(List.length (List.getD x.l i default).l) : Int)), (81, int i64 ((↑k : Int) + 1))] [cells false 1 (nth [encPacks x]), cells false 1 (nth [encLs (List.length x.l) L]), cells false 1 (nth [int i64 (↑i : Int)]), cells false 1 (nth [int i64 (↑k : Int)]), cells false 2 (nth [encR (List.getD (List.getD x.l i default).l k default).needs, encR (List.getD (List.getD x.l i default).l k default).bars])] g)) ∧ ((!List.any (List.getD (List.getD x.l i default).l k default).needs.l fun (r : Rng) => !List.any (L (Int.toNat r.pack)).l (okV x (↑i : Int) (↑k : Int) r)) = false → False))) ∧ (decide ((↑k : Int) < (↑(List.length (List.getD x.l i default).l) : Int)) = false → Q (AEx.exit 4) (St.mk [(1, ref 0 0), (3, ref 1 0), (7, ref 2 0), (72, encPacks x), (73, int i64 (↑(List.length x.l) : Int)), (74, int i64 (↑i : Int)), (79, encRels (List.getD x.l i default)), (80, int i64 (↑(List.length (List.getD x.l i default).l) : Int)), (81, int i64 (↑k : Int)), (82, AV.bool (decide ((↑k : Int) < (↑(List.length (List.getD x.l i default).l) : Int))))] [cells false 1 (nth [encPacks x]), cells false 1 (nth [encLs (List.length x.l) L]), cells false 1 (nth [int i64 (↑i : Int)])] g))) (fun _ => by kernel_rfl) ⟨fun hcc => (nomatch (hkf.symm.trans hcc)), fun _ => ?_⟩
                    refine ⟨_, To.refl _, vcQ [] (lkL [(26, [1, 3, 72, 73, 74])]) (fun _ => []) (fun (Q : AEx → St R.σ → Prop) => (-9223372036854775808 ≤ (↑i : Int) + 1 ∧ (↑i : Int) + 1 ≤ 9223372036854775807) ∧ Q AEx.normal (St.mk [(1, ref 0 0), (3, ref 1 0), (72, encPacks x), (73, int i64 (↑(List.length x.l) : Int)), (74, int i64 ((↑i : Int) + 1))] [cells false 1 (nth [encPacks x]), cells false 1 (nth [encLs (List.length x.l) L]), cells false 1 (nth [int i64 (↑i : Int)])] g)) (fun _ => by kernel_rfl) ⟨(by omega), ?_⟩⟩
                    refine (next_round (i + 1) (to_sel [0, 1] 3 rfl rfl rfl rfl rfl ⟨(Le.refl _), ⟨(Le.refl _), ⟨(Le.refl _), ⟨(Le.refl _), ⟨(Le.refl _), trivial⟩⟩⟩⟩⟩ ⟨⟨rfl, Nat.le_refl _, fun j hj => match j, hj with | 0, _ => (Le.refl _) ⟩, ⟨⟨rfl, Nat.le_refl _, fun j hj => match j, hj with | 0, _ => (Le.refl _) ⟩, trivial⟩⟩) ?_ ?_)
                    · omega
                    · omega
              · refine ⟨_, To.refl _, vcQ [] (lkL [(27, [2])]) (lkL [(27, [(0, ROrc.pcall (AV.bool true))])]) (fun (Q : AEx → St R.σ → Prop) => (∀ (hp : List AObj) (g : R.σ), true = true ∧ Does Tryd.prog R 8 [] hp g (ret (AV.bool true)) hp g) ∧ Q AEx.ret (St.mk [(2, AV.bool true)] [cells false 1 (nth [encPacks x]), cells false 1 (nth [encLs (List.length x.l) L])] g)) (fun _ => by kernel_rfl) ⟨(fun _ _ => ⟨rfl, (Go.Avm.Pack.c_works _ _ _)⟩), ?_⟩⟩
                refine (retQ_le (retQ_drop _ _ rfl trivial trivial rfl) (Le.refl _))
end Go.Avm.Pack
namespace Go.Proofs.YthaoambmnjfdlaaDoor
open Go Go.Avm Go.Avm.Pack Go.WideShapes Go.ChangeShapes Go.ChangeAt
def packLost_fill (cs : Array Value) : Obj → Obj
  | .cells _ t frozen => .cells cs t frozen
  | o => o
noncomputable def packLost_world (os : Os) : World :=
  { World.holding Tryd.prog os ⟨#[], #[], []⟩ with heap := ((World.holding Tryd.prog os ⟨#[], #[], []⟩).heap.modify 0 (packLost_fill #[.int .u8 0, .int .u8 1, .int .u8 28, .int .u8 2, .int .u8 29, .int .u8 14, .int .u8 24, .int .u8 3, .int .u8 30, .int .u8 22, .int .u8 20, .int .u8 15, .int .u8 25, .int .u8 17, .int .u8 4, .int .u8 8, .int .u8 31, .int .u8 27, .int .u8 13, .int .u8 23, .int .u8 21, .int .u8 19, .int .u8 16, .int .u8 7, .int .u8 26, .int .u8 12, .int .u8 18, .int .u8 6, .int .u8 11, .int .u8 5, .int .u8 10, .int .u8 9])).modify 1 (packLost_fill #[.int .u8 0, .int .u8 1, .int .u8 56, .int .u8 2, .int .u8 57, .int .u8 49, .int .u8 28, .int .u8 3, .int .u8 61, .int .u8 58, .int .u8 42, .int .u8 50, .int .u8 38, .int .u8 29, .int .u8 17, .int .u8 4, .int .u8 62, .int .u8 47, .int .u8 59, .int .u8 36, .int .u8 45, .int .u8 43, .int .u8 51, .int .u8 22, .int .u8 53, .int .u8 39, .int .u8 33, .int .u8 30, .int .u8 24, .int .u8 18, .int .u8 12, .int .u8 5, .int .u8 63, .int .u8 55, .int .u8 48, .int .u8 27, .int .u8 60, .int .u8 41, .int .u8 37, .int .u8 16, .int .u8 46, .int .u8 35, .int .u8 44, .int .u8 21, .int .u8 52, .int .u8 32, .int .u8 23, .int .u8 11, .int .u8 54, .int .u8 26, .int .u8 40, .int .u8 15, .int .u8 34, .int .u8 20, .int .u8 31, .int .u8 10, .int .u8 25, .int .u8 14, .int .u8 19, .int .u8 9, .int .u8 13, .int .u8 8, .int .u8 7, .int .u8 6]) }
theorem packLost_met (os : Os) : laidMet Tryd.prog Rows.packLostRow.laid ((packLost_world os).forCall (fun _ _ => 0) ⟨#[], #[.agg #[.slice none 0 0]], []⟩).memory :=
  laidMet_of_run' 8 (by kernel_rfl) (by kernel_rfl)
theorem packLost_reads (os : Os) {H : Type} (enc : TypeId × Value → H) : ∃ places, DataW.whole enc Tryd.prog ((packLost_world os).forCall (fun _ _ => 0) ⟨#[], #[.agg #[.slice none 0 0]], []⟩).memory Tryd.f5.params.toList Rows.packLostSpec.vars false (#[.agg #[.slice none 0 0]] : Array Value).toList 8 = some ([.agg [.nil]], [], places) :=
  ⟨[], by kernel_rfl⟩
theorem packLost_tabs (W : World) (h : laidMetH Tryd.prog Rows.packLostRow.laid W) : Tabs gsT (memOf W) := by
  have h : laidMet Tryd.prog [("math/bits.deBruijn32tab", Lib.tabData .u8 tab32), ("math/bits.deBruijn64tab", Lib.tabData .u8 tab64)] W := h
  exact tabs_cons (t := 140) (e := 5) (n := 32) (by kernel_rfl) (by kernel_rfl) Tryd.underlying140 Tryd.underlying5 (by kernel_rfl) (by kernel_rfl) h
    (fun h => tabs_cons (t := 141) (e := 5) (n := 64) (by kernel_rfl) (by kernel_rfl) Tryd.underlying141 Tryd.underlying5 (by kernel_rfl) (by kernel_rfl) h (fun _ => tabs_nil))
set_option maxRecDepth 100000 in
theorem packLost_lifted (os : Os) (started : os.Started) (H : Type) (enc : TypeId × Value → H) (F : Stop.Interp) :
    ReturnsInHanded {} Tryd.checked os 5 .any ((OpenSpec.ofChange Rows.packLostSpec).preRow enc Tryd.prog Tryd.f5 Rows.packLostRow.domain Rows.packLostRow.apart Rows.packLostRow.laid) (((OpenSpec.ofChange Rows.packLostSpec).at F).post enc Tryd.prog Tryd.f5 Rows.packLostRow.apart Rows.packLostRow.fresh Rows.packLostRow.handsOn Rows.packLostRow.again) := by
  obtain ⟨places, hx⟩ := packLost_reads os enc
  exact law_laid (C := Tryd.checked) (s := Rows.packLostSpec) (tb := 4) (gs := gsT) (X := fun l => ∃ a : Ix, True ∧ ∃ l', (l' = []) ∧ l = encIx a :: l') (by kernel_rfl) started (by kernel_rfl) Tryd.func5
    (witness_row_at (enc := enc) (C := Tryd.checked) false (packLost_world os) #[.agg #[.slice none 0 0]] rfl (by kernel_rfl) (by kernel_rfl) (by kernel_rfl)
      (OpenSpec.preRow_of_cond 8 hx (by kernel_rfl) (fun k hk => by cases hk) (by kernel_rfl) (packLost_met os)))
    rfl (fun ds h => by
      match ds, h with
      | [_], _ => rfl) (by kernel_rfl)
    (fun t ht => by
      have ht : t ∈ [24] := ht
      simp only [List.mem_cons, List.not_mem_nil, or_false] at ht
      subst ht; exact ⟨by kernel_rfl, of_decide_eq_true (by kernel_rfl)⟩) rfl Tryd.underlying4 packLost_tabs
    ((args_cons arg_ix args_nil))
    (fun avs ⟨a, ha, _, e0, e1⟩ => by
      subst e0 e1
      exact c_PackLost (Res.tab gsT) a ())
theorem packLost_said : Rows.PackLostSaid :=
  OpenClaim.holds_of_cond 5 Tryd.f5 rfl rfl rfl rfl rfl rfl rfl ⟨rfl, rfl, rfl, rfl, rfl⟩ rfl rfl rfl rfl rfl (by kernel_rfl) Tryd.func5 (by kernel_rfl)
    (of_decide_eq_true (by kernel_rfl)) (by unfold Func.isWrapper; first | (rw [if_pos (by decide +kernel)]; kernel_rfl) | (rw [if_neg (by decide +kernel)]; exact ⟨rfl, rfl⟩))
    (fun os started H enc _ F => by rw [OpenClaim.pre_eq_preRow]; exact packLost_lifted os started H enc F)
theorem packLost_plain (f : FuncId) (fn : Func) (hf : Tryd.pinned.checked.prog.funcNamed "swingle/swinglelaw26.PackLost" = some f) (hfn : Tryd.pinned.checked.prog.funcs[f]? = some fn) :
    true = Tryd.pinned.checked.prog.looks [] ∧ ∀ (j : Nat) t, fn.params[j]? = some t → Tryd.pinned.checked.prog.wantsStandIn t = false := by
  obtain rfl : f = 5 := Option.some.inj ((show Tryd.prog.funcNamed "swingle/swinglelaw26.PackLost" = some 5 by kernel_rfl).symm.trans hf) |>.symm
  obtain rfl : fn = Tryd.f5 := (Option.some.inj (Tryd.func5.symm.trans hfn)).symm
  refine ⟨by kernel_rfl, fun j t ht => ?_⟩
  have hm : t ∈ (Tryd.f5.params).toList := Array.mem_toList_iff.2 (Array.mem_of_getElem? ht)
  have hm : t ∈ [24] := hm
  simp only [List.mem_cons, List.not_mem_nil, or_false] at hm
  subst hm
  exact (show Tryd.prog.wantsStandIn 24 = false by kernel_rfl)
theorem packLost_holds : Rows.PackLostCardSaid :=
  Claim7.holds_tied_plain_at .later [] _ _ _ _ packLost_said (fun _ h => by cases h) (by kernel_rfl) (fun _ h => by cases h) packLost_row_tie rfl ⟨rfl, rfl⟩ (by kernel_rfl) rfl packLost_plain (by kernel_rfl)
#print axioms packLost_holds
end Go.Proofs.YthaoambmnjfdlaaDoor
