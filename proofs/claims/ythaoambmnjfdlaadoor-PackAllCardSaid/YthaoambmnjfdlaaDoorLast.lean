/- PackAll returns true, and leaves its arguments as they were. No conditions: every input that can be read as data. -/
import Derived.Test.YthaoambmnjfdlaaDoorM4
namespace Go.Avm.Pack
open Go Go.Avm Go.Proofs
open Go.IntKind (i64 u64)
open Go.Avm.AV (int bool any fz fp sl ow ref fn ifc val agg tup)
open Go.Avm.AObj (cells dead)
open Go.Avm.Oc (ret)
set_option maxRecDepth 4000

def gv (b : List Int) (k : Nat) (r : Rng) : Int := r.high - (if 0 < b.length then IntKind.i64.wrap (b.getD (k % b.length) 0) else 0).tmod (r.high - r.low + 1)
def gstep (x : Ix) (b : List Int) (k : Nat) (s : List Int × List Rng) : List Int × List Rng := match s.2 with
 | [] => s
 | r :: t => if 0 ≤ s.1.getD r.pack.toNat 0 then (s.1, t) else (s.1.set r.pack.toNat (gv b k r), t ++ ((x.l.getD r.pack.toNat default).l.getD (gv b k r).toNat default).needs.l)
def gN (x : Ix) (l : List Rng) (b : List Int) (f : Nat) : Nat → List Int × List Rng
 | 0 => (List.replicate x.l.length (-1), l)
 | n + 1 => gstep x b (f + n) (gN x l b f n)
def grownL (x : Ix) (l : List Rng) (b : List Int) (f : Nat) : List Int := (gN x l b f 60).1
def goodG (x : Ix) (n : Nat) (s : List Int × List Rng) : Prop := isPlan x s.1 ∧ (∀ r ∈ s.2, rangedB x r = true) ∧ s.2.length ≤ 4 + 4 * n
theorem gv_in {b : List Int} {k : Nat} {r : Rng} (hb : ∀ v ∈ b, 0 ≤ v ∧ v ≤ 255) (hr : r.low ≤ r.high) : r.low ≤ gv b k r ∧ gv b k r ≤ r.high := by
 have hv : 0 ≤ (if 0 < b.length then IntKind.i64.wrap (b.getD (k % b.length) 0) else 0) := by
  split
  ·rename_i h
   have hlt := Nat.mod_lt k h
   have := hb _ (getD_mem b 0 hlt)
   have hw : IntKind.i64.wrap (b.getD (k % b.length) 0) = b.getD (k % b.length) 0 := by rw [IntKind.wrap_i64]; omega
   rw [hw]
   exact this.1
  ·exact Int.le_refl _
 unfold gv
 have h1 := Int.tmod_nonneg (r.high - r.low + 1) hv
 have h2 := Int.tmod_lt_of_pos (if 0 < b.length then IntKind.i64.wrap (b.getD (k % b.length) 0) else 0) (show (0 : Int) < r.high - r.low + 1 by omega)
 omega
theorem needs_four {x : Ix} (hx : formedB x = true) {i n : Nat} (hi : i < x.l.length) (hn : n < (x.l.getD i default).l.length) : ((x.l.getD i default).l.getD n default).needs.l.length ≤ 4 := by
 have e := formed_rel hx hi hn
 unfold relB at e
 simp only [Bool.and_eq_true, decide_eq_true_eq] at e
 omega
theorem gstep_good {x : Ix} {b : List Int} {k n : Nat} {s : List Int × List Rng} (hx : formedB x = true) (hb : ∀ v ∈ b, 0 ≤ v ∧ v ≤ 255) (h : goodG x n s) : goodG x (n + 1) (gstep x b k s) := by
 obtain ⟨⟨h1, h2⟩, h3, h4⟩ := h
 obtain ⟨o, t⟩ := s
 unfold gstep
 cases t with
 | nil => exact ⟨⟨h1, h2⟩, h3, by show 0 ≤ _; omega⟩
 | cons r t =>
   have h4 : t.length + 1 ≤ 4 + 4 * n := h4
   have hr := h3 r List.mem_cons_self
   have hr' := of_decide_eq_true hr
   have hv := gv_in (k := k) hb hr'.2.2.2.1
   have hh : r.high < ((x.l.getD r.pack.toNat default).l.length : Int) := hr'.2.2.2.2
   simp only
   split
   ·exact ⟨⟨h1, h2⟩, fun q hq => h3 q (List.mem_cons_of_mem _ hq), by show t.length ≤ _; omega⟩
   ·have h4' := needs_four hx (i := r.pack.toNat) (n := (gv b k r).toNat) (by omega) (by omega)
    refine ⟨⟨by show (o.set _ _).length = _; rw [List.length_set]; exact h1, fun i hi => ?_⟩, fun q hq => ?_, ?_⟩
    ·show -1 ≤ (o.set _ _).getD i 0 ∧ (o.set _ _).getD i 0 < _
     have hio : i < o.length := by show i < _; have : o.length = x.l.length := h1; omega
     rw [set_getD hio]
     by_cases e : i = r.pack.toNat
     ·rw [if_pos e, e]
      omega
     ·rw [if_neg e]
      exact h2 i hi
    ·rcases List.mem_append.1 hq with hq | hq
     ·exact h3 q (List.mem_cons_of_mem _ hq)
     ·exact need_ranged hx (i := r.pack.toNat) (n := (gv b k r).toNat) (by omega) (by omega) q hq
    ·show (t ++ _).length ≤ _
     rw [List.length_append]
     omega
theorem rep_getD (n i : Nat) (h : i < n) : (List.replicate n (-1 : Int)).getD i 0 = -1 := by
 rw [List.getD_eq_getElem?_getD, List.getElem?_replicate, if_pos h]
 rfl
theorem gN_good {x : Ix} {l : List Rng} {b : List Int} {f : Nat} (hx : formedB x = true) (hl : ∀ r ∈ l, rangedB x r = true) (h4 : l.length ≤ 4) (hb : ∀ v ∈ b, 0 ≤ v ∧ v ≤ 255) : ∀ n, goodG x n (gN x l b f n)
 | 0 => ⟨⟨by show (List.replicate _ _).length = _; simp, fun i hi => by
     show -1 ≤ (List.replicate _ _).getD i 0 ∧ (List.replicate _ _).getD i 0 < _
     rw [rep_getD _ _ hi]
     omega⟩, hl, by show l.length ≤ _; omega⟩
 | n + 1 => gstep_good hx hb (gN_good hx hl h4 hb n)
theorem gN_end {x : Ix} {l : List Rng} {b : List Int} {f n : Nat} (h : (gN x l b f n).2 = []) : ∀ m, gN x l b f (n + m) = gN x l b f n
 | 0 => rfl
 | m + 1 => by
   show gstep x b (f + (n + m)) (gN x l b f (n + m)) = _
   rw [gN_end h m]
   unfold gstep
   rw [h]
theorem grown_end {x : Ix} {l : List Rng} {b : List Int} {f n : Nat} (hn : n ≤ 60) (h : (gN x l b f n).2 = []) : (gN x l b f n).1 = grownL x l b f := by
 unfold grownL
 have := gN_end h (60 - n)
 rw [show n + (60 - n) = 60 by omega] at this
 rw [this]
theorem gN_succ {x : Ix} {l : List Rng} {b : List Int} {f n : Nat} {r : Rng} {t : List Rng} (h : (gN x l b f n).2 = r :: t) : gN x l b f (n + 1) = if 0 ≤ (gN x l b f n).1.getD r.pack.toNat 0 then ((gN x l b f n).1, t) else ((gN x l b f n).1.set r.pack.toNat (gv b (f + n) r), t ++ ((x.l.getD r.pack.toNat default).l.getD (gv b (f + n) r).toNat default).needs.l) := by
 show gstep x b (f + n) (gN x l b f n) = _
 unfold gstep
 rw [h]
theorem grown_plan {x : Ix} {l : List Rng} {b : List Int} {f : Nat} (hx : formedB x = true) (hl : ∀ r ∈ l, rangedB x r = true) (h4 : l.length ≤ 4) (hb : ∀ v ∈ b, 0 ≤ v ∧ v ≤ 255) : isPlan x (grownL x l b f) := (gN_good hx hl h4 hb 60).1
theorem drop_cons {L : List Rng} {k : Nat} (h : k < L.length) : L.drop k = L.getD k default :: L.drop (k + 1) := by
 rw [List.getD_eq_getElem?_getD, List.getElem?_eq_getElem h]
 exact List.drop_eq_getElem_cons h
end Go.Avm.Pack
namespace Go.Avm.Pack
open Go Go.Avm Go.Proofs
open Go.IntKind (i64 u64)
open Go.Avm.AV (int bool any fz fp sl ow ref fn ifc val agg tup)
open Go.Avm.AObj (cells dead)
open Go.Avm.Oc (ret)
set_option maxRecDepth 4000

def tailP (R : Res) (Q : AEx → St R.σ → Prop) (x : Ix) (b : KL Int) (f n : Nat) (kv : Int) (td : AV) (r : Rng) (O : List Int) (L : List Rng) (g : R.σ) : Prop :=
 Wp Tryd.prog R 86 0 Rd.top (bodyOf Tryd.prog 32) [1, 1, 1, 0, 1, 0, 0, 1, 0, 0, 1, 1, 1, 1, 1] Q ⟨[(2, encB b), (3, .int .i64 f), (4, .ref 0 0), (9, .sl 1 0 x.l.length x.l.length true 1), (10, td), (11, .int .i64 n), (12, .ref 3 0), (13, .int .i64 kv)], [.cells false 1 (nth [encPacks x]), .cells false (x.l.length * 1) (intsC O), .cells false (L.length * 3) (rngsC L), .cells false 3 (nth [.int .i64 r.pack, .int .i64 r.low, .int .i64 r.high])], g⟩
theorem ints_set {O : List Int} {p c n : Nat} {v : Int} (h : O.length = n) (hc : c < n * 1) : intsC (O.set p v) c = over (intsC O) p 1 (fun _ => .int .i64 v) c := by
 rw [over_eq]
 show AV.int .i64 ((O.set p v).getD c 0) = if p ≤ c ∧ c < p + 1 then AV.int .i64 v else AV.int .i64 (O.getD c 0)
 rw [set_getD (by omega)]
 by_cases e : c = p
 ·rw [if_pos e, if_pos (by omega)]
 ·rw [if_neg e, if_neg (by omega)]
theorem rngs_append {L nd : List Rng} {k m c : Nat} (hL : L.length = k + m) (hc : c < (m + nd.length) * 3) : rngsC (L.drop k ++ nd) c = plainJ 3 m (fun i j => rngsC L (k * 3 + i * 3 + j)) (fun i => rngC (nd.getD i default)) c := by
 have hdl : (L.drop k).length = m := by rw [List.length_drop]; omega
 unfold plainJ
 by_cases h : c < m * 3
 ·rw [if_pos h]
  show rngC ((L.drop k ++ nd).getD (c / 3) default) (c % 3) = rngC (L.getD ((k * 3 + c / 3 * 3 + c % 3) / 3) default) ((k * 3 + c / 3 * 3 + c % 3) % 3)
  rw [show (k * 3 + c / 3 * 3 + c % 3) / 3 = k + c / 3 by omega, show (k * 3 + c / 3 * 3 + c % 3) % 3 = c % 3 by omega]
  rw [List.getD_eq_getElem?_getD, List.getElem?_append_left (by omega), List.getElem?_drop, ← List.getD_eq_getElem?_getD]
 ·rw [if_neg h]
  show rngC ((L.drop k ++ nd).getD (c / 3) default) (c % 3) = rngC (nd.getD ((c - m * 3) / 3) default) ((c - m * 3) % 3)
  rw [List.getD_eq_getElem?_getD, List.getElem?_append_right (by omega), hdl, ← List.getD_eq_getElem?_getD, show c / 3 - m = (c - m * 3) / 3 by omega, show c % 3 = (c - m * 3) % 3 by omega]
theorem grown_tailA (R : Res) (Q : AEx → St R.σ → Prop) (x : Ix) (b : KL Int) (f n : Nat) (kv v : Int) (r : Rng) (O : List Int) (L : List Rng) (g : R.σ) (hs : small x) (h8 : x.l.length ≤ 8) (hO : O.length = x.l.length) (hr : rangedB x r = true) (hv : v = r.high - kv.tmod (r.high - r.low + 1)) (hkv : 0 ≤ kv ∧ kv ≤ 255) (hvr : r.low ≤ v ∧ v ≤ r.high)
  (nd : KL Rng) (hnd : nd = ((x.l.getD r.pack.toNat default).l.getD v.toNat default).needs) (hq : nd.l.length ≤ 4) (k m c off : Nat) (ho : off = k * 3) (hm : m ≤ 400) (hc : m ≤ c) (hL : L.length = k + m) (hL0 : 0 < L.length)
  (h0 : nd.l.length = 0 → Q .normal ⟨[(2, encB b), (3, .int .i64 f), (4, .ref 0 0), (9, .sl 1 0 x.l.length x.l.length true 1), (10, .sl 2 off m c false 3), (11, .int .i64 n)], [.cells false 1 (nth [encPacks x]), .cells false (x.l.length * 1) (intsC (O.set r.pack.toNat v)), .cells false (L.length * 3) (rngsC L), .cells false 3 (nth [.int .i64 r.pack, .int .i64 r.low, .int .i64 r.high])], g⟩)
  (h1 : 0 < nd.l.length → Q .normal ⟨[(2, encB b), (3, .int .i64 f), (4, .ref 0 0), (9, .sl 1 0 x.l.length x.l.length true 1), (10, .sl 4 0 (m + nd.l.length) (m + nd.l.length) false 3), (11, .int .i64 n)], [.cells false 1 (nth [encPacks x]), .cells false (x.l.length * 1) (intsC (O.set r.pack.toNat v)), .dead, .cells false 3 (nth [.int .i64 r.pack, .int .i64 r.low, .int .i64 r.high]), .cells false ((m + nd.l.length) * 3) (rngsC (L.drop k ++ nd.l))], g⟩) :
  tailP R Q x b f n kv (.sl 2 off m c false 3) r O L g := by
 subst ho
 have hr' := of_decide_eq_true hr
 have hrh : r.high < ((x.l.getD r.pack.toNat default).l.length : Int) := hr'.2.2.2.2
 have hroom : maxRoom = 140737488355328 := rfl
 have ht1 := Int.tmod_nonneg (r.high - r.low + 1) hkv.1
 have ht2 := Int.tmod_lt_of_pos kv (show (0 : Int) < r.high - r.low + 1 by omega)
 have hset : ∀ c, c < x.l.length * 1 → intsC (O.set r.pack.toNat v) c = over (intsC O) r.pack.toNat 1 (fun _ => .int .i64 (r.high - kv.tmod (r.high - r.low + 1))) c := fun c hc => by rw [← hv]; exact ints_set hO hc
 have hget : intsC (O.set r.pack.toNat v) r.pack.toNat = .int .i64 v := by
  show AV.int .i64 ((O.set r.pack.toNat v).getD r.pack.toNat 0) = _
  rw [set_getD (by omega), if_pos rfl]
 unfold tailP
 have hrel := hs.2 r.pack.toNat
 by_cases hz : nd.l.length = 0
 ·have h0 := h0 hz
  refine vcQ [] (lkL [(12, [2, 3, 4, 9, 10, 11, 12]), (13, [2, 3, 4, 9, 10, 11])]) (lkL [(12, [(15, ROrc.val (Orc.obj (intsC (O.set (r.pack.toNat) v))))]), (13, [(11, ROrc.kop (int i64 v)), (15, ROrc.kop (sl 2 (k * 3) m c false 3))])]) (fun Q => (fun (u1 : List AObj) => (fun (u2 : List Row) => (fun (u3 : List (Nat × AV)) => (fun (u4 : Rel) => (fun (u5 : Int) => (fun (u6 : Nat) => (fun (u7 : Int) => (fun (u8 : Bool) => u8 = true ∧ 1 ≤ 3 ∧ 3 ≤ 3 ∧ 3 ≤ 3 ∧ 2 ≤ 3 ∧ (-9223372036854775808 ≤ u5 ∧ u5 ≤ 9223372036854775807) ∧ (-9223372036854775808 ≤ u5 + 1 ∧ u5 + 1 ≤ 9223372036854775807) ∧ u5 + 1 ≠ 0 ∧ (-9223372036854775808 ≤ u7 ∧ u7 ≤ 9223372036854775807) ∧ (0 ≤ r.pack ∧ r.pack < (u6 : Int)) ∧ r.pack.toNat + 1 ≤ u6 * 1 ∧ (∀ (c : Nat), c < u6 * 1 → intsC (O.set (r.pack.toNat) v) c = over (intsC O) (r.pack.toNat) 1 (fun (x : Nat) => int i64 u7) c) ∧ u8 = true ∧ 1 ≤ 1 ∧ 1 ≤ 3 ∧ (0 ≤ r.pack ∧ r.pack < (u6 : Int)) ∧ 1 ≤ 1 ∧ 1 ≤ 3 ∧ (0 ≤ r.pack ∧ r.pack < (u6 : Int)) ∧ OpOk Tryd.prog R (Oper.mk (some 80) (Op.load 3 (Operand.tmp 79)) 3 "outright.go:40" #[Edge.mk 10 Ground.data] none) (evO u2 u3 []) u1 g (int i64 v) u1 g ∧ (0 ≤ v ∧ v < (↑((x.l.getD (r.pack.toNat) default).l.length) : Int)) ∧ 1 ≤ 2 ∧ OpOk Tryd.prog R (Oper.mk (some 84) (Op.call (Call.mk (Callee.builtin Builtin.append) #[Operand.tmp 69, Operand.tmp 83] #[34, 34])) 34 "outright.go:40" #[Edge.mk 0 Ground.data, Edge.mk 14 Ground.data] none) (evO (Row.mk (some 83) none (encR u4.needs) false (some []) [] :: Row.mk (some 82) none (fp 2 fun (j : Nat) => relC u4 j) false (some []) [] :: Row.mk (some 81) none (fp 2 (relC u4)) false (some []) [] :: Row.mk (some 80) none (int i64 v) true (some []) [] :: u2) u3 []) u1 g (sl 2 (k * 3) m c false 3) u1 g ∧ Q AEx.normal (St.mk [(2, encB b), (3, int i64 (f : Int)), (4, ref 0 0), (9, sl 1 0 u6 u6 true 1), (10, sl 2 (k * 3) m c false 3), (11, int i64 (n : Int))] u1 g)) (Tables.follows Tryd.prog.toTables Departure.mixedOrders)) (r.high - Int.tmod kv (u5 + 1))) (x.l.length)) (r.high - r.low)) ((x.l.getD (r.pack.toNat) default).l.getD (v.toNat) default)) ([(2, encB b), (3, int i64 (f : Int)), (4, ref 0 0), (9, sl 1 0 (x.l.length) (x.l.length) true 1), (10, sl 2 (k * 3) m c false 3), (11, int i64 (n : Int)), (12, ref 3 0)])) ([Row.mk (some 79) none (ref 1 (r.pack.toNat)) false (some []) [], Row.mk (some 78) none (int i64 r.pack) false (some []) [3], Row.mk (some 77) none (ref 3 0) false (some []) [], Row.mk (some 76) none (sl 1 0 (x.l.length) (x.l.length) true 1) false (some []) [], Row.mk (some 75) none (encRels (x.l.getD (r.pack.toNat) default)) false (some []) [], Row.mk (some 74) none (fp 1 fun (x_1 : Nat) => encRels (x.l.getD (r.pack.toNat) default)) false (some []) [], Row.mk (some 73) none (int i64 r.pack) false (some []) [3], Row.mk (some 72) none (ref 3 0) false (some []) [], Row.mk (some 71) none (encPacks x) false (some []) [0], Row.mk (some 70) none (ref 0 0) false (some []) [], Row.mk (some 69) none (sl 2 (k * 3) m c false 3) false (some []) []])) ([cells false 1 (nth [encPacks x]), cells false (x.l.length * 1) fun (a : Nat) => intsC (O.set (r.pack.toNat) v) a, cells false (L.length * 3) (rngsC L), cells false 3 (nth [int i64 r.pack, int i64 r.low, int i64 r.high])])) (fun _ => by kernel_rfl) ⟨(by kernel_rfl), ⟨(by omega), ⟨(by omega), ⟨(by omega), ⟨(by omega), ⟨(by omega), ⟨(by omega), ⟨(by omega), ⟨(by omega), ⟨(by omega), ⟨(by omega), ⟨(by omega), ⟨(by kernel_rfl), ⟨(by omega), ⟨(by omega), ⟨(by omega), ⟨(by omega), ⟨(by omega), ⟨(by omega), ⟨?_, ⟨(by omega), ⟨(by omega), ⟨?_, ?_⟩⟩⟩⟩⟩⟩⟩⟩⟩⟩⟩⟩⟩⟩⟩⟩⟩⟩⟩⟩⟩⟩⟩
  ·exact opOk_loadK rfl rfl (by kernel_rfl) rfl (show r.pack.toNat + 1 ≤ _ by omega) hget
  ·exact opOk_appendZ (es2 := 3) (kd := nd.k) (get := fun i => rngC (nd.l.getD i default)) rfl rfl rfl rfl rfl (by kernel_rfl) (by show encR _ = _; rw [← hnd]; unfold encR; rw [hz]) hc
  ·exact h0
 ·have h1 := h1 (by omega)
  subst hnd
  refine vcQ [] (lkL [(12, [2, 3, 4, 9, 10, 11, 12]), (13, [2, 3, 4, 9, 10, 11])]) (lkL [(12, [(15, ROrc.val (Orc.obj (intsC (O.set (r.pack.toNat) v))))]), (13, [(11, ROrc.kop (int i64 v)), (15, ROrc.val (Orc.obj (rngsC (List.drop k L ++ ((x.l.getD (r.pack.toNat) default).l.getD (v.toNat) default).needs.l))))])]) (fun Q => (fun (u1 : List Rng) => (fun (u2 : List AObj) => (fun (u3 : Nat) => (fun (u4 : Int) => (fun (u5 : Nat) => (fun (u6 : KL Rel) => (fun (u7 : Int) => Tables.follows Tryd.prog.toTables Departure.mixedOrders = true ∧ 1 ≤ 3 ∧ 3 ≤ 3 ∧ 3 ≤ 3 ∧ 2 ≤ 3 ∧ (-9223372036854775808 ≤ u4 ∧ u4 ≤ 9223372036854775807) ∧ (-9223372036854775808 ≤ u4 + 1 ∧ u4 + 1 ≤ 9223372036854775807) ∧ u4 + 1 ≠ 0 ∧ (-9223372036854775808 ≤ u7 ∧ u7 ≤ 9223372036854775807) ∧ (0 ≤ r.pack ∧ r.pack < (u3 : Int)) ∧ r.pack.toNat + 1 ≤ u3 * 1 ∧ (∀ (c : Nat), c < u3 * 1 → intsC (O.set (r.pack.toNat) v) c = over (intsC O) (r.pack.toNat) 1 (fun (x : Nat) => int i64 u7) c) ∧ Tables.follows Tryd.prog.toTables Departure.mixedOrders = true ∧ 1 ≤ 1 ∧ 1 ≤ 3 ∧ (0 ≤ r.pack ∧ r.pack < (u3 : Int)) ∧ 1 ≤ 1 ∧ 1 ≤ 3 ∧ (0 ≤ r.pack ∧ r.pack < (u3 : Int)) ∧ OpOk Tryd.prog R (Oper.mk (some 80) (Op.load 3 (Operand.tmp 79)) 3 "outright.go:40" #[Edge.mk 10 Ground.data] none) (evO [Row.mk (some 79) none (ref 1 (r.pack.toNat)) false (some []) [], Row.mk (some 78) none (int i64 r.pack) false (some []) [3], Row.mk (some 77) none (ref 3 0) false (some []) [], Row.mk (some 76) none (sl 1 0 u3 u3 true 1) false (some []) [], Row.mk (some 75) none (encRels u6) false (some []) [], Row.mk (some 74) none (fp 1 fun (x : Nat) => encRels u6) false (some []) [], Row.mk (some 73) none (int i64 r.pack) false (some []) [3], Row.mk (some 72) none (ref 3 0) false (some []) [], Row.mk (some 71) none (encPacks x) false (some []) [0], Row.mk (some 70) none (ref 0 0) false (some []) [], Row.mk (some 69) none (sl 2 (k * 3) m c false 3) false (some []) []] [(2, encB b), (3, int i64 (f : Int)), (4, ref 0 0), (9, sl 1 0 u3 u3 true 1), (10, sl 2 (k * 3) m c false 3), (11, int i64 (n : Int)), (12, ref 3 0)] []) u2 g (int i64 v) u2 g ∧ (0 ≤ v ∧ v < (u6.l.length : Int)) ∧ 1 ≤ 2 ∧ 0 < L.length * 3 ∧ 0 < u1.length ∧ 0 < 3 ∧ u5 * 24 ≤ maxRoom ∧ u5 ≤ maxRoom ∧ k * 3 + m * 3 ≤ L.length * 3 ∧ (∀ (c : Nat), c < u5 * 3 → rngsC (List.drop k L ++ u1) c = plainJ 3 m (fun (i j : Nat) => rngsC L (k * 3 + i * 3 + j)) (fun (i : Nat) => rngC (u1.getD i default)) c) ∧ Q AEx.normal (St.mk [(2, encB b), (3, int i64 (f : Int)), (4, ref 0 0), (9, sl 1 0 u3 u3 true 1), (10, sl 4 0 u5 u5 false 3), (11, int i64 (n : Int))] [cells false 1 (nth [encPacks x]), cells false (u3 * 1) fun (a : Nat) => intsC (O.set (r.pack.toNat) v) a, dead, cells false 3 (nth [int i64 r.pack, int i64 r.low, int i64 r.high]), cells false (u5 * 3) (rngsC (List.drop k L ++ u1))] g)) (r.high - Int.tmod kv (u4 + 1))) (x.l.getD (r.pack.toNat) default)) (m + u1.length)) (r.high - r.low)) (x.l.length)) ([cells false 1 (nth [encPacks x]), cells false (x.l.length * 1) fun (a : Nat) => intsC (O.set (r.pack.toNat) v) a, cells false (L.length * 3) (rngsC L), cells false 3 (nth [int i64 r.pack, int i64 r.low, int i64 r.high])])) (((x.l.getD (r.pack.toNat) default).l.getD (v.toNat) default).needs.l)) (fun _ => by kernel_rfl) ⟨(by kernel_rfl), ⟨(by omega), ⟨(by omega), ⟨(by omega), ⟨(by omega), ⟨(by omega), ⟨(by omega), ⟨(by omega), ⟨(by omega), ⟨(by omega), ⟨(by omega), ⟨(by omega), ⟨(by kernel_rfl), ⟨(by omega), ⟨(by omega), ⟨(by omega), ⟨(by omega), ⟨(by omega), ⟨(by omega), ⟨?_, ⟨(by omega), ⟨(by omega), ⟨(by omega), ⟨(by omega), ⟨(by omega), ⟨(by omega), ⟨(by omega), ⟨(by omega), ⟨?_, ?_⟩⟩⟩⟩⟩⟩⟩⟩⟩⟩⟩⟩⟩⟩⟩⟩⟩⟩⟩⟩⟩⟩⟩⟩⟩⟩⟩⟩⟩
  ·exact opOk_loadK rfl rfl (by kernel_rfl) rfl (show r.pack.toNat + 1 ≤ _ by omega) hget
  ·exact fun c hc => rngs_append hL hc
  ·exact h1
theorem grown_tailB (R : Res) (Q : AEx → St R.σ → Prop) (x : Ix) (b : KL Int) (f n : Nat) (kv v : Int) (r : Rng) (O : List Int) (L : List Rng) (g : R.σ) (hs : small x) (h8 : x.l.length ≤ 8) (hO : O.length = x.l.length) (hr : rangedB x r = true) (hv : v = r.high - kv.tmod (r.high - r.low + 1)) (hkv : 0 ≤ kv ∧ kv ≤ 255) (hvr : r.low ≤ v ∧ v ≤ r.high)
  (nd : KL Rng) (hnd : nd = ((x.l.getD r.pack.toNat default).l.getD v.toNat default).needs) (hq : nd.l.length ≤ 4) 
  (h1 : Q .normal ⟨[(2, encB b), (3, .int .i64 f), (4, .ref 0 0), (9, .sl 1 0 x.l.length x.l.length true 1), (10, .ow false 4 (0 + nd.l.length) 3), (11, .int .i64 n)], [.cells false 1 (nth [encPacks x]), .cells false (x.l.length * 1) (intsC (O.set r.pack.toNat v)), .cells false (L.length * 3) (rngsC L), .cells false 3 (nth [.int .i64 r.pack, .int .i64 r.low, .int .i64 r.high]), .cells false ((0 + nd.l.length) * 3) (rngsC nd.l)], g⟩) :
  tailP R Q x b f n kv (.fz .exm 3 0 (fun _ _ => .any)) r O L g := by
 have hr' := of_decide_eq_true hr
 have hrh : r.high < ((x.l.getD r.pack.toNat default).l.length : Int) := hr'.2.2.2.2
 have hroom : maxRoom = 140737488355328 := rfl
 have ht1 := Int.tmod_nonneg (r.high - r.low + 1) hkv.1
 have ht2 := Int.tmod_lt_of_pos kv (show (0 : Int) < r.high - r.low + 1 by omega)
 have hset : ∀ c, c < x.l.length * 1 → intsC (O.set r.pack.toNat v) c = over (intsC O) r.pack.toNat 1 (fun _ => .int .i64 (r.high - kv.tmod (r.high - r.low + 1))) c := fun c hc => by rw [← hv]; exact ints_set hO hc
 have hget : intsC (O.set r.pack.toNat v) r.pack.toNat = .int .i64 v := by
  show AV.int .i64 ((O.set r.pack.toNat v).getD r.pack.toNat 0) = _
  rw [set_getD (by omega), if_pos rfl]
 unfold tailP
 have hrel := hs.2 r.pack.toNat
 subst hnd
 refine vcQ [] (lkL [(12, [2, 3, 4, 9, 10, 11, 12]), (13, [2, 3, 4, 9, 10, 11])]) (lkL [(12, [(15, ROrc.val (Orc.obj (intsC (O.set (r.pack.toNat) v))))]), (13, [(11, ROrc.kop (int i64 v)), (15, ROrc.val (Orc.obj (rngsC ((x.l.getD (r.pack.toNat) default).l.getD (v.toNat) default).needs.l)))])]) (fun Q => (fun (u1 : List Rng) => (fun (u2 : List AObj) => (fun (u3 : Nat) => (fun (u4 : Int) => (fun (u5 : KL Rel) => (fun (u6 : Nat) => (fun (u7 : Int) => (fun (u8 : Bool) => u8 = true ∧ 1 ≤ 3 ∧ 3 ≤ 3 ∧ 3 ≤ 3 ∧ 2 ≤ 3 ∧ (-9223372036854775808 ≤ u4 ∧ u4 ≤ 9223372036854775807) ∧ (-9223372036854775808 ≤ u4 + 1 ∧ u4 + 1 ≤ 9223372036854775807) ∧ u4 + 1 ≠ 0 ∧ (-9223372036854775808 ≤ u7 ∧ u7 ≤ 9223372036854775807) ∧ (0 ≤ r.pack ∧ r.pack < (u3 : Int)) ∧ r.pack.toNat + 1 ≤ u3 * 1 ∧ (∀ (c : Nat), c < u3 * 1 → intsC (O.set (r.pack.toNat) v) c = over (intsC O) (r.pack.toNat) 1 (fun (x : Nat) => int i64 u7) c) ∧ u8 = true ∧ 1 ≤ 1 ∧ 1 ≤ 3 ∧ (0 ≤ r.pack ∧ r.pack < (u3 : Int)) ∧ 1 ≤ 1 ∧ 1 ≤ 3 ∧ (0 ≤ r.pack ∧ r.pack < (u3 : Int)) ∧ OpOk Tryd.prog R (Oper.mk (some 80) (Op.load 3 (Operand.tmp 79)) 3 "outright.go:40" #[Edge.mk 10 Ground.data] none) (evO [Row.mk (some 79) none (ref 1 (r.pack.toNat)) false (some []) [], Row.mk (some 78) none (int i64 r.pack) false (some []) [3], Row.mk (some 77) none (ref 3 0) false (some []) [], Row.mk (some 76) none (sl 1 0 u3 u3 true 1) false (some []) [], Row.mk (some 75) none (encRels u5) false (some []) [], Row.mk (some 74) none (fp 1 fun (x : Nat) => encRels u5) false (some []) [], Row.mk (some 73) none (int i64 r.pack) false (some []) [3], Row.mk (some 72) none (ref 3 0) false (some []) [], Row.mk (some 71) none (encPacks x) false (some []) [0], Row.mk (some 70) none (ref 0 0) false (some []) [], Row.mk (some 69) none (fz Fz.exm 3 0 fun _ _ => any) false (some []) []] [(2, encB b), (3, int i64 (f : Int)), (4, ref 0 0), (9, sl 1 0 u3 u3 true 1), (10, fz Fz.exm 3 0 fun _ _ => any), (11, int i64 (n : Int)), (12, ref 3 0)] []) u2 g (int i64 v) u2 g ∧ (0 ≤ v ∧ v < (u5.l.length : Int)) ∧ 1 ≤ 2 ∧ (0 = 0 ∨ 0 < u1.length) ∧ 0 < 3 ∧ u6 * 24 ≤ maxRoom ∧ u6 ≤ maxRoom ∧ (∀ (c : Nat), c < u6 * 3 → rngsC u1 c = plainJ 3 0 (fun _ _ => any) (fun (i : Nat) => rngC (u1.getD i default)) c) ∧ Q AEx.normal (St.mk [(2, encB b), (3, int i64 (f : Int)), (4, ref 0 0), (9, sl 1 0 u3 u3 true 1), (10, ow false 4 u6 3), (11, int i64 (n : Int))] [cells false 1 (nth [encPacks x]), cells false (u3 * 1) fun (a : Nat) => intsC (O.set (r.pack.toNat) v) a, cells false (L.length * 3) (rngsC L), cells false 3 (nth [int i64 r.pack, int i64 r.low, int i64 r.high]), cells false (u6 * 3) (rngsC u1)] g)) (Tables.follows Tryd.prog.toTables Departure.mixedOrders)) (r.high - Int.tmod kv (u4 + 1))) (0 + u1.length)) (x.l.getD (r.pack.toNat) default)) (r.high - r.low)) (x.l.length)) ([cells false 1 (nth [encPacks x]), cells false (x.l.length * 1) fun (a : Nat) => intsC (O.set (r.pack.toNat) v) a, cells false (L.length * 3) (rngsC L), cells false 3 (nth [int i64 r.pack, int i64 r.low, int i64 r.high])])) (((x.l.getD (r.pack.toNat) default).l.getD (v.toNat) default).needs.l)) (fun _ => by kernel_rfl) ⟨(by kernel_rfl), ⟨(by omega), ⟨(by omega), ⟨(by omega), ⟨(by omega), ⟨(by omega), ⟨(by omega), ⟨(by omega), ⟨(by omega), ⟨(by omega), ⟨(by omega), ⟨(by omega), ⟨(by kernel_rfl), ⟨(by omega), ⟨(by omega), ⟨(by omega), ⟨(by omega), ⟨(by omega), ⟨(by omega), ⟨?_, ⟨(by omega), ⟨(by omega), ⟨(by omega), ⟨(by omega), ⟨(by omega), ⟨(by omega), ⟨?_, ?_⟩⟩⟩⟩⟩⟩⟩⟩⟩⟩⟩⟩⟩⟩⟩⟩⟩⟩⟩⟩⟩⟩⟩⟩⟩⟩⟩
 ·exact opOk_loadK rfl rfl (by kernel_rfl) rfl (show r.pack.toNat + 1 ≤ _ by omega) hget
 ·intro c hc
  show _ = rngC (((x.l.getD r.pack.toNat default).l.getD v.toNat default).needs.l.getD ((c - 0) / 3) default) ((c - 0) % 3)
  rfl
 ·exact h1
end Go.Avm.Pack
namespace Go.Avm.Pack
open Go Go.Avm Go.Proofs
open Go.IntKind (i64 u64)
open Go.Avm.AV (int bool any fz fp sl ow ref fn ifc val agg tup)
open Go.Avm.AObj (cells dead)
open Go.Avm.Oc (ret)
set_option maxRecDepth 4000

theorem rngsC_load {L : List Rng} {k : Nat} : Le (.agg 3 (fun j => rngsC L (j + (0 + k * 3)))) (encRng (L.getD k default)) := by
 refine Le.agg fun j hj => Le.of_eq ?_
 show rngC (L.getD ((j + (0 + k * 3)) / 3) default) ((j + (0 + k * 3)) % 3) = rngC (L.getD k default) j
 rw [show (j + (0 + k * 3)) / 3 = k by omega, show (j + (0 + k * 3)) % 3 = j by omega]
theorem ren_rngsC {f : Nat → Nat} {n : Nat} (L : List Rng) : LeO (.cells false n (rngsC L)) (renO f (.cells false n (rngsC L))) := by
 refine LeO.cells (fun j hj => ?_)
 show rngC (L.getD (j / 3) default) (j % 3) = renA f (rngC (L.getD (j / 3) default) (j % 3))
 have h : j % 3 < 3 := Nat.mod_lt _ (by decide)
 match j % 3, h with
 | 0, _ => rfl
 | 1, _ => rfl
 | 2, _ => rfl
theorem ow_tdV {o o' n : Nat} {L : List Rng} (h : o' = o) (hn : n = L.length) : Le (.ow false o' n 3) (tdV o 0 L) := by
 subst h hn
 unfold tdV
 cases hb : Nat.beq (L.length - 0) 0 with
 | true =>
   have h0 : L.length = 0 := Nat.eq_of_beq_eq_true hb
   rw [h0]
   exact Le.ow_may
 | false =>
   have h0 : L.length ≠ 0 := fun h => by rw [Nat.sub_zero, h] at hb; cases hb
   show Le _ (.sl o' (0 * 3) (L.length - 0) (L.length - 0) false 3)
   rw [Nat.zero_mul, Nat.sub_zero]
   exact Le.ow_sl h0
theorem sl_tdV {o k m c off : Nat} {ex : Bool} {L : List Rng} (hm : m = L.length - k) (ho : off = k * 3) (hc : m ≤ c) : Le (.sl o off m c ex 3) (tdV o k L) := by
 subst hm ho
 unfold tdV
 cases hb : Nat.beq (L.length - k) 0 with
 | true =>
   have h0 : L.length - k = 0 := Nat.eq_of_beq_eq_true hb
   rw [h0]
   exact Le.sl_may
 | false => exact Le.sl hc (fun h => by cases h)
theorem exm_tdV {o k : Nat} {L : List Rng} (h : L.length ≤ k) : Le (.fz .exm 3 0 (fun _ _ => .any)) (tdV o k L) := by
 unfold tdV
 rw [show L.length - k = 0 by omega]
 exact leK_ok rfl (fun i j hi _ => absurd hi (Nat.not_lt_zero i))
theorem tdV_ren {f : Nat → Nat} {o o' k : Nat} {L : List Rng} (h : f o = o') : renA f (tdV o k L) = tdV o' k L := by
 unfold tdV
 cases Nat.beq (L.length - k) 0 with
 | true => rfl
 | false => subst h; rfl
theorem rep_ints (n : Nat) : LeO (.cells false (n * 1) (repC n)) (.cells false (n * 1) (intsC (List.replicate n (-1)))) :=
 LeO.cells (fun c hc => by
  show AV.int .i64 (if c < n then -1 else 0) = AV.int .i64 ((List.replicate n (-1 : Int)).getD c 0)
  rw [if_pos (by omega), rep_getD n c (by omega)])
theorem grown_all (R : Res) (x : Ix) (l : KL Rng) (b : KL Int) (f : Nat) (g : R.σ) (hs : small x) (hx : formedB x = true) (hk : l.k = .nil ∨ l.k = .opn) (h4 : l.l.length ≤ 4) (hl : ∀ r ∈ l.l, rangedB x r = true) (hf : f < 1000) (hb : ∀ v ∈ b.l, 0 ≤ v ∧ v ≤ 255) :
  Does Tryd.prog R 32 [encIx x, encR l, encB b, .int .i64 f] [] g (.ret (.fz .exa 1 x.l.length (fun i j => intsC (grownL x l.l b.l f) (0 + i * 1 + j)))) [] g := by
 have h18 := formed_le hx
 have hroom : maxRoom = 140737488355328 := rfl
 obtain ⟨ng, hng⟩ : ∃ v, v = aNeg := ⟨_, rfl⟩
 have hG := fun n => gN_good (f := f) hx hl h4 hb n
 have hplan := grown_plan (f := f) hx hl h4 hb
 refine spec_of_wp (nt := 86) (rs := [.tmp 8]) (k0 := 0) (by kernel_rfl) (by kernel_rfl) (by kernel_rfl) rfl ?_
 refine vcQ [] (lkL [(0, [1, 2, 3, 4]), (1, [1, 2, 3, 4, 9]), (2, [2, 3, 4, 9, 10]), (3, [2, 3, 4, 9, 10, 11])]) (lkL [(1, [(0, ROrc.kop (encI ng)), (4, ROrc.call (sl (List.length [cells false 1 (nth [encPacks x])]) 0 (x.l.length) (x.l.length) true 1) ([cells false 1 (nth [encPacks x])] ++ [cells false (x.l.length * 1) (repC (x.l.length))]) g)]), (2, [(1, ROrc.call (ow false 3 (l.l.length) 3) [cells false 1 (nth [encPacks x]), cells false (x.l.length * 1) fun (a : Nat) => int i64 (if a < x.l.length then -1 else 0), cells false 0 fun (j : Nat) => any, cells false (l.l.length * 3) (rngsC l.l)] g)])]) (fun Q => (fun (u1 : AObj) => (fun (u2 : AObj) => (fun (u3 : List AObj) => (fun (u4 : AV) => (fun (u5 : Nat) => OpOk Tryd.prog R (Oper.mk (some 14) (Op.buildSlice 43 1 #[(0, Operand.const (Value.int i64 (-1)))]) 43 "outright.go:27" #[] none) (evO [] [(1, encR l), (2, encB b), (3, int i64 (f : Int)), (4, ref 0 0)] []) [u2] g u4 [u2] g ∧ 1 ≤ 1 ∧ (true = true ∧ Does Tryd.prog R 69 [u4, int i64 (u5 : Int)] [u2] g (ret (sl 1 0 u5 u5 true 1)) [u2, u1] g) ∧ (true = true ∧ Does Tryd.prog R 70 [encR l] [u2, u1] g (ret (ow false 3 (l.l.length) 3)) u3 g) ∧ Wp Tryd.prog R 86 0 Rd.top (bodyOf Tryd.prog 32) [1, 1, 1, 0, 1, 0] (contQ Tryd.prog R 86 0 Rd.top (bodyOf Tryd.prog 32) Q [Kont.blk 0, Kont.seq [1, 1, 1, 1]]) (St.mk [(2, encB b), (3, int i64 (f : Int)), (4, ref 0 0), (9, sl 1 0 u5 u5 true 1), (10, ow false 3 (l.l.length) 3), (11, int i64 0)] u3 g)) (x.l.length)) (fz ng.2 1 (ng.l.length) fun (i x : Nat) => intsC ng.l i)) ([u2, u1, cells false 0 fun (j : Nat) => any, cells false (l.l.length * 3) (rngsC l.l)])) (cells false 1 (nth [encPacks x]))) (cells false (x.l.length * 1) fun (a : Nat) => int i64 (if a < x.l.length then -1 else 0))) (fun _ => by kernel_rfl) ⟨?_, ⟨(by omega), ⟨⟨rfl, (Go.Avm.Pack.c_Repeat _ _ _ (by omega) (by omega) (by omega) _ _)⟩, ⟨⟨rfl, (does_sub' [] 2 (fun R g => Go.Avm.Pack.c_CloneR R (l) g (by omega) (by omega)) rfl rfl rfl (by exact trivial) (by exact trivial) (by exact ⟨le_ren (by exact trivial), trivial⟩) (by exact (Le.refl _)) (by exact ⟨LeO.rflc, ⟨LeO.rflc, ⟨LeO.rflc, ⟨⟨rfl, Nat.le_refl _, fun j hj => le_unren (by first | exact trivial | apply Go.Avm.Pack.below_rngsC)⟩, trivial⟩⟩⟩⟩))⟩, ?_⟩⟩⟩⟩
 ·subst hng; exact opOk_litB (n := 1) (es := 1) (by kernel_rfl) (by exact ⟨trivial, trivial⟩) rfl rfl (fun i hi j hj => match i, hi, j, hj with | 0, _, 0, _ => (by kernel_rfl) ) (fun i hi j hj => match i, hi, j, hj with | 0, _, 0, _ => trivial )
 ·refine (wp_to (s' := ⟨[(2, encB b), (3, int i64 (f : Int)), (4, ref 0 0), (9, sl 1 0 (x.l.length) (x.l.length) true 1), (10, .ow false 2 l.l.length 3), (11, int i64 0)], [.cells false 1 (nth [encPacks x]), .cells false (x.l.length * 1) (repC x.l.length), .cells false (l.l.length * 3) (rngsC l.l)], g⟩) (to_sel [0, 1, 3] 4 rfl rfl rfl rfl rfl ⟨(Le.refl _), ⟨(Le.refl _), ⟨(Le.refl _), ⟨(Le.refl _), ⟨(Le.refl _), ⟨(Le.refl _), trivial⟩⟩⟩⟩⟩⟩ ⟨⟨rfl, Nat.le_refl _, fun j hj => match j, hj with | 0, _ => (Le.refl _) ⟩, ⟨?_, ⟨⟨by first | rfl | (simp; done), by first | exact Nat.le_refl _ | (simp; done) | (simp; omega), fun j hj => le_ren (by first | exact trivial | apply Go.Avm.Pack.below_rngsC)⟩, trivial⟩⟩⟩) ?_)
  ·exact LeO.refl _
  refine (wp_loop (by kernel_rfl) (fun (y : Nat × Nat × List Rng) => ⟨[(2, encB b), (3, int i64 (f : Int)), (4, ref 0 0), (9, sl 1 0 (x.l.length) (x.l.length) true 1), (10, tdV 2 y.2.1 y.2.2), (11, .int .i64 y.1)], [.cells false 1 (nth [encPacks x]), .cells false (x.l.length * 1) (intsC (gN x l.l b.l f y.1).1), .cells false (y.2.2.length * 3) (rngsC y.2.2)], g⟩) (fun (y : Nat × Nat × List Rng) => (y.1 ≤ 60 ∧ (gN x l.l b.l f y.1).2 = y.2.2.drop y.2.1 ∧ y.2.1 ≤ y.2.2.length)) (fun (y : Nat × Nat × List Rng) => (60 - y.1)) ((0, 0, l.l) : Nat × Nat × List Rng) (to_le ⟨(Le.refl _), ⟨(Le.refl _), ⟨(Le.refl _), ⟨(Le.refl _), ⟨?_, ⟨(Le.of_eq (by kernel_rfl)), trivial⟩⟩⟩⟩⟩⟩ ⟨LeO.rflc, ⟨?_, ⟨LeO.rflc, trivial⟩⟩⟩ rfl) ?_ (fun y hi => ?_))
  ·exact ow_tdV rfl rfl
  ·exact rep_ints _
  ·exact ⟨by show 0 ≤ 60; decide, rfl, Nat.zero_le _⟩
  ·obtain ⟨n, k, L⟩ := y
   obtain ⟨y1, y2, y3⟩ := hi
   have y1 : n ≤ 60 := y1
   have y2 : (gN x l.l b.l f n).2 = L.drop k := y2
   have y3 : k ≤ L.length := y3
   have hgood := hG n
   have hlen : L.length - k ≤ 4 + 4 * n := by
    have := hgood.2.2
    rw [y2, List.length_drop] at this
    exact this
   by_cases hz : L.length - k = 0
   ·have e : tdV 2 k L = .fz .may 3 0 (fun _ _ => .any) := by unfold tdV; rw [hz]; rfl
    have hend : (gN x l.l b.l f n).1 = grownL x l.l b.l f := grown_end y1 (by rw [y2]; exact List.drop_eq_nil_of_le (by omega))
    rw [show tdV 2 (n, k, L).2.1 (n, k, L).2.2 = _ from e, show (gN x l.l b.l f (n, k, L).1).1 = _ from hend]
    have hgl := hplan.1
    refine vcQ [] (lkL [(4, [2, 3, 4, 9, 10, 11, 27]), (6, [2, 3, 4, 9, 10, 11, 12]), (7, [2, 3, 4, 9, 10, 11, 12]), (8, [2, 3, 4, 9, 10, 11, 12, 40])]) (lkL [(6, [(4, ROrc.val (Orc.obj (nth [any, any, any])))])]) (fun Q => (false = true → ((↑0 : Int) ≤ 0 ∧ 0 < (↑0 : Int)) ∧ 3 ≤ 3 ∧ 3 ≤ 3 ∧ (∀ (c : Nat), c < 3 → nth [any, any, any] c = over (nth [int i64 0, int i64 0, int i64 0]) 0 3 (List.brecOn (motive := fun (x : List AV) => Nat → AV) [any, any, any] nth._f) c) ∧ 0 ≤ 0 ∧ ((↑0 : Int) ≤ 1 ∧ 1 ≤ (↑0 : Int)) ∧ False) ∧ (false = false → Q (AEx.exit 0) (St.mk [(2, encB b), (3, int i64 (f : Int)), (4, ref 0 0), (9, sl 1 0 (x.l.length) (x.l.length) true 1), (10, fz Fz.may 3 0 fun (x x_2 : Nat) => any), (11, int i64 (n : Int)), (27, AV.bool false)] [cells false 1 (nth [encPacks x]), cells false (x.l.length * 1) fun (a : Nat) => intsC (grownL x l.l b.l f) a, cells false (L.length * 3) (rngsC L)] g))) (fun _ => by kernel_rfl) ⟨fun h => (nomatch h), fun _ => ?_⟩
    refine ⟨_, To.refl _, vcQ [] (lkL [(14, [8])]) (fun _ => []) (fun Q => Q AEx.ret (St.mk [(8, sl 1 0 (x.l.length) (x.l.length) true 1)] [cells false 1 (nth [encPacks x]), cells false (x.l.length * 1) fun (a : Nat) => intsC (grownL x l.l b.l f) a, cells false (L.length * 3) (rngsC L)] g)) (fun _ => by kernel_rfl) (?_)⟩
    refine (retQ_le (retQ_frz 0 [1] _ _ rfl trivial (by omega) (by exact ⟨(fun _ _ => (by first | exact trivial | apply Go.Avm.Pack.below_intsC)), ⟨⟨(by simp at * <;> omega), (by simp at * <;> omega)⟩, trivial⟩⟩) (by exact trivial) (by exact trivial) (by kernel_rfl) rfl rfl) (Le.of_eq ?_))
    show AV.fz (bif true && Nat.beq x.l.length x.l.length then .exa else .opn) _ _ _ = _
    rw [Nat.beq_refl]
    rfl
   ·have e : tdV 2 k L = .sl 2 (k * 3) (L.length - k) (L.length - k) false 3 := by
     unfold tdV
     cases hb : Nat.beq (L.length - k) 0 with
     | true => exact absurd (Nat.eq_of_beq_eq_true hb) hz
     | false => rfl
    rw [show tdV 2 (n, k, L).2.1 (n, k, L).2.2 = _ from e]
    refine vcQ [[1, 1, 1, 0, 1, 0, 0, 1, 0, 0, 1]] (lkL [(4, [2, 3, 4, 9, 10, 11, 27]), (6, [2, 3, 4, 9, 10, 11, 12])]) (lkL [(6, [(2, ROrc.kop (encRng (L.getD k default))), (4, ROrc.val (Orc.obj (nth [int i64 (L.getD k default).pack, int i64 (L.getD k default).low, int i64 (L.getD k default).high])))])]) (fun Q => (fun (u1 : List AObj) => (fun (u2 : List (Nat × AV)) => (fun (u3 : List AV) => (fun (u4 : Nat) => (fun (u5 : Bool) => (u5 = true → ((↑0 : Int) ≤ 0 ∧ 0 < (u4 : Int)) ∧ OpOk Tryd.prog R (Oper.mk (some 32) (Op.load 37 (Operand.tmp 31)) 37 "outright.go:30" #[Edge.mk 1 Ground.data] none) (evO [Row.mk (some 31) none (ref 2 (0 + k * 3)) false (some []) [], Row.mk (some 30) none (sl 2 (k * 3) u4 u4 false 3) false (some []) []] u2 []) u1 g (encRng (L.getD k default)) u1 g ∧ 3 ≤ 3 ∧ (∀ (c : Nat), c < 3 → nth u3 c = over (nth [int i64 0, int i64 0, int i64 0]) 0 3 (List.brecOn (motive := fun (x : List AV) => Nat → AV) u3 nth._f) c) ∧ Wp Tryd.prog R 86 0 Rd.top (bodyOf Tryd.prog 32) [1, 1, 1, 0, 1, 0, 0, 1, 0, 0, 1] (contQ Tryd.prog R 86 0 Rd.top (bodyOf Tryd.prog 32) Q [Kont.blk 1, Kont.seq [1, 1, 1, 0, 1, 0, 0, 1, 1]]) (St.mk [(2, encB b), (3, int i64 (f : Int)), (4, ref 0 0), (9, sl 1 0 (x.l.length) (x.l.length) true 1), (10, sl 2 (k * 3) u4 u4 false 3), (11, int i64 (n : Int)), (12, ref 3 0)] [cells false 1 (nth [encPacks x]), cells false (x.l.length * 1) fun (a : Nat) => intsC (gN x l.l b.l f n).fst a, cells false (L.length * 3) (rngsC L), cells false 3 (nth u3)] g)) ∧ (u5 = false → Q (AEx.exit 0) (St.mk u2 u1 g))) (bif decide ((u4 : Int) > 0) then decide ((n : Int) < 60) else false)) (L.length - k)) ([int i64 (L.getD k default).pack, int i64 (L.getD k default).low, int i64 (L.getD k default).high])) ([(2, encB b), (3, int i64 (f : Int)), (4, ref 0 0), (9, sl 1 0 (x.l.length) (x.l.length) true 1), (10, sl 2 (k * 3) (L.length - k) (L.length - k) false 3), (11, int i64 (n : Int)), (27, AV.bool (bif decide ((↑(L.length - k) : Int) > 0) then decide ((n : Int) < 60) else false))])) ([cells false 1 (nth [encPacks x]), cells false (x.l.length * 1) fun (a : Nat) => intsC (gN x l.l b.l f n).fst a, cells false (L.length * 3) (rngsC L)])) (fun _ => by kernel_rfl) ⟨fun c1 => have c1 : (↑(L.length - k) : Int) > 0 ∧ (n : Int) < 60 := ⟨(of_decide_eq_true (cA_t c1).1), (of_decide_eq_true (cA_t c1).2)⟩; ⟨(by omega), ⟨?_, ⟨(by omega), ⟨(fun c hc => match c, hc with | 0, _ => (by kernel_rfl) | 1, _ => (by kernel_rfl) | 2, _ => (by kernel_rfl) ), ?_⟩⟩⟩⟩, fun c1 => have c1 : ¬(↑(L.length - k) : Int) > 0 ∨ ¬(n : Int) < 60 := ((cA_f c1).imp (fun h => (of_decide_eq_false h)) (fun h => (of_decide_eq_false h))); ?_⟩
    ·exact opOk_loadA (s := 3) rfl rfl (by kernel_rfl) rfl (by omega) rngsC_load
    ·have hkl : k < L.length := by omega
     have hdc := drop_cons hkl
     rw [hdc] at y2
     have hsucc := gN_succ y2
     have hr := hgood.2.1 (L.getD k default) (by rw [y2]; exact List.mem_cons_self)
     obtain ⟨r, hrd⟩ : ∃ r, L.getD k default = r := ⟨_, rfl⟩
     obtain ⟨O, hO⟩ : ∃ O, (gN x l.l b.l f n).1 = O := ⟨_, rfl⟩
     have hOp := hgood.1
     rw [hrd] at hr hsucc y2
     rw [hO] at hsucc hOp
     rw [hrd, hO]
     have hr' := of_decide_eq_true hr
     have hrh : r.high < ((x.l.getD r.pack.toNat default).l.length : Int) := hr'.2.2.2.2
     obtain ⟨nd, hnd⟩ : ∃ nd, nd = ((x.l.getD r.pack.toNat default).l.getD (gv b.l (f + n) r).toNat default).needs := ⟨_, rfl⟩
     have hgv := gv_in (k := f + n) hb hr'.2.2.2.1
     have hq : nd.l.length ≤ 4 := by rw [hnd]; exact needs_four hx (by omega) (by omega)
     have hOl : O.length = x.l.length := hOp.1
     have hdn : 0 ≤ O.getD r.pack.toNat 0 → gN x l.l b.l f (n + 1) = (O, L.drop (k + 1)) := fun h => by rw [hsucc, if_pos h]
     have hup : ¬ 0 ≤ O.getD r.pack.toNat 0 → gN x l.l b.l f (n + 1) = (O.set r.pack.toNat (gv b.l (f + n) r), L.drop (k + 1) ++ nd.l) := fun h => by rw [hsucc, if_neg h, hnd]
     have hbv : 0 < b.l.length → 0 ≤ IntKind.i64.wrap (b.l.getD ((f + n) % b.l.length) 0) ∧ IntKind.i64.wrap (b.l.getD ((f + n) % b.l.length) 0) ≤ 255 := fun h => by
      have := hb _ (getD_mem b.l 0 (Nat.mod_lt (f + n) h))
      rw [IntKind.wrap_i64]
      omega
     refine wp_room 10 rfl (by omega) (fun hm1 => ?_) (fun c hc1 hc2 => ?_)
     ·have hdn0 : L.drop (k + 1) = [] := List.drop_eq_nil_of_le (by omega)
      refine vcQ [[1, 1, 1, 0, 1, 0, 0, 1, 0, 0, 1, 1, 1, 1, 1]] (lkL [(7, [2, 3, 4, 9, 10, 11, 12]), (8, [2, 3, 4, 9, 10, 11, 12, 40]), (9, [2, 3, 4, 9, 10, 11, 12, 13]), (10, [2, 3, 4, 9, 10, 11, 12, 13, 43]), (11, [2, 3, 4, 9, 10, 11, 12, 13])]) (lkL [(7, [(1, ROrc.kop (fz Fz.exm 3 0 fun _ _ => any))])]) (fun Q => (fun (u1 : List AObj) => (fun (u2 : Int) => (fun (u3 : Int) => (fun (u4 : AV) => (fun (u5 : AV) => (fun (u6 : Int) => (fun (u7 : AV) => (fun (u8 : AV) => OpOk Tryd.prog R (Oper.mk (some 34) (Op.slice 34 (Operand.tmp 33) (some (Operand.const (Value.int i64 1))) none none) 34 "outright.go:31" #[Edge.mk 0 Ground.data] none) (evO [Row.mk (some 33) none (sl 2 (k * 3) 1 1 true 3) false (some []) []] [(10, sl 2 (k * 3) 1 1 true 3), (2, encB b), (3, u8), (4, ref 0 0), (9, u4), (10, sl 2 (k * 3) (L.length - k) (L.length - k) false 3), (11, u7), (12, ref 3 0)] []) u1 g u5 u1 g ∧ 1 ≤ 3 ∧ (0 ≤ r.pack ∧ r.pack < (x.l.length : Int)) ∧ r.pack.toNat + 1 ≤ x.l.length * 1 ∧ (decide (u3 ≥ 0) = true → Q (AEx.exit 1) (St.mk [(2, encB b), (3, u8), (4, ref 0 0), (9, u4), (10, u5), (11, u7), (12, ref 3 0), (40, AV.bool (decide (u3 ≥ 0)))] u1 g)) ∧ (decide (u3 ≥ 0) = false → (decide (u2 > 0) = true → (-9223372036854775808 ≤ u6 ∧ u6 ≤ 9223372036854775807) ∧ u2 ≠ 0 ∧ (0 ≤ Int.tmod u6 u2 ∧ Int.tmod u6 u2 < u2) ∧ 1 ≤ 1 ∧ Wp Tryd.prog R 86 0 Rd.top (bodyOf Tryd.prog 32) [1, 1, 1, 0, 1, 0, 0, 1, 0, 0, 1, 1, 1, 1, 1] (contQ Tryd.prog R 86 0 Rd.top (bodyOf Tryd.prog 32) Q []) (St.mk [(2, encB b), (3, u8), (4, ref 0 0), (9, u4), (10, u5), (11, u7), (12, ref 3 0), (13, int i64 (IntKind.wrap i64 (b.l.getD ((f + n) % b.l.length) 0)))] u1 g)) ∧ (decide (u2 > 0) = false → Wp Tryd.prog R 86 0 Rd.top (bodyOf Tryd.prog 32) [1, 1, 1, 0, 1, 0, 0, 1, 0, 0, 1, 1, 1, 1, 1] (contQ Tryd.prog R 86 0 Rd.top (bodyOf Tryd.prog 32) Q []) (St.mk [(2, encB b), (3, u8), (4, ref 0 0), (9, u4), (10, u5), (11, u7), (12, ref 3 0), (13, int i64 0), (43, AV.bool (decide (u2 > 0)))] u1 g)))) (int i64 (f : Int))) (int i64 (n : Int))) ((f : Int) + (n : Int))) (fz Fz.exm 3 0 fun _ _ => any)) (sl 1 0 (x.l.length) (x.l.length) true 1)) (O.getD (r.pack.toNat) 0)) ((b.l.length : Int))) ([cells false 1 (nth [encPacks x]), cells false (x.l.length * 1) fun (a : Nat) => intsC O a, cells false (L.length * 3) (rngsC L), cells false 3 (nth [int i64 r.pack, int i64 r.low, int i64 r.high])])) (fun _ => by kernel_rfl) ⟨?_, ⟨(by omega), ⟨(by omega), ⟨(by omega), ⟨fun c1 => have c1 : O.getD (r.pack.toNat) 0 ≥ 0 := (of_decide_eq_true c1); ?_, fun c1 => have c1 : ¬O.getD (r.pack.toNat) 0 ≥ 0 := (of_decide_eq_false c1); ⟨fun c2 => have c2 : (b.l.length : Int) > 0 := (of_decide_eq_true c2); ⟨(by omega), ⟨(by omega), ⟨?_, ⟨(by omega), ?_⟩⟩⟩⟩, fun c2 => have c2 : ¬(b.l.length : Int) > 0 := (of_decide_eq_false c2); ?_⟩⟩⟩⟩⟩⟩
      ·exact opOk_sliceEnd (kd := .i64) rfl rfl rfl (by kernel_rfl)
      ·have hdn := hdn c1
       refine vcQ [] (lkL [(5, [2, 3, 4, 9, 10, 11])]) (fun _ => []) (fun Q => (-9223372036854775808 ≤ (n : Int) + 1 ∧ (n : Int) + 1 ≤ 9223372036854775807) ∧ Q AEx.normal (St.mk [(2, encB b), (3, int i64 (f : Int)), (4, ref 0 0), (9, sl 1 0 (x.l.length) (x.l.length) true 1), (10, fz Fz.exm 3 0 fun _ _ => any), (11, int i64 ((n : Int) + 1))] [cells false 1 (nth [encPacks x]), cells false (x.l.length * 1) fun (a : Nat) => intsC O a, cells false (L.length * 3) (rngsC L), cells false 3 (nth [int i64 r.pack, int i64 r.low, int i64 r.high])] g)) (fun _ => by kernel_rfl) ⟨(by omega), ?_⟩
       refine (next_round (n + 1, k + 1, L) (to_sel [0, 1, 2] 4 rfl rfl rfl rfl rfl ⟨(Le.refl _), ⟨(Le.refl _), ⟨(Le.refl _), ⟨(Le.refl _), ⟨?_, ⟨(Le.refl _), trivial⟩⟩⟩⟩⟩⟩ ⟨⟨rfl, Nat.le_refl _, fun j hj => match j, hj with | 0, _ => (Le.refl _) ⟩, ⟨?_, ⟨⟨by first | rfl | (simp; done), by first | exact Nat.le_refl _ | (simp; done) | (simp; omega), fun j hj => le_ren (by first | exact trivial | apply Go.Avm.Pack.below_rngsC)⟩, trivial⟩⟩⟩) ?_ ?_)
       ·show Le _ (renA (nat1 [0, 1, 2] 4) (tdV 2 (k + 1) L))
        rw [tdV_ren (o' := 2) rfl]
        exact exm_tdV (by omega)
       ·rw [show (gN x l.l b.l f (n + 1, k + 1, L).1).1 = _ from congrArg Prod.fst hdn]
        exact LeO.refl _
       ·exact ⟨by show n + 1 ≤ 60; omega, congrArg Prod.snd hdn, by show k + 1 ≤ L.length; omega⟩
       ·show 60 - (n + 1) < 60 - n
        omega
      ·exact ⟨Int.tmod_nonneg _ (by omega), Int.tmod_lt_of_pos _ (by omega)⟩
      ·have hup := hup (by omega)
       rw [hdn0, List.nil_append] at hup
       have hkv : gv b.l (f + n) r = r.high - (IntKind.i64.wrap (b.l.getD ((f + n) % b.l.length) 0) : Int).tmod (r.high - r.low + 1) := by
        unfold gv
        rw [if_pos (by omega)]
       refine wp_to ?_ (grown_tailB R _ x b f n _ (gv b.l (f + n) r) r O L g hs h18.2 hOl hr hkv (hbv (by omega)) hgv nd hnd hq ?_)
       ·exact to_fr ⟨Le.refl _, Le.refl _, Le.refl _, Le.refl _, Le.refl _, Le.refl _, Le.refl _, Le.refl _, trivial⟩ rfl rfl
       ·refine vcQ [] (lkL [(5, [2, 3, 4, 9, 10, 11])]) (fun _ => []) (fun Q => (-9223372036854775808 ≤ (n : Int) + 1 ∧ (n : Int) + 1 ≤ 9223372036854775807) ∧ Q AEx.normal (St.mk [(2, encB b), (3, int i64 (f : Int)), (4, ref 0 0), (9, sl 1 0 (x.l.length) (x.l.length) true 1), (10, ow false 4 (0 + nd.l.length) 3), (11, int i64 ((n : Int) + 1))] [cells false 1 (nth [encPacks x]), cells false (x.l.length * 1) fun (a : Nat) => intsC (O.set (r.pack.toNat) (gv b.l (f + n) r)) a, cells false (L.length * 3) (rngsC L), cells false 3 (nth [int i64 r.pack, int i64 r.low, int i64 r.high]), cells false ((0 + nd.l.length) * 3) (rngsC nd.l)] g)) (fun _ => by kernel_rfl) ⟨(by omega), ?_⟩
        refine (next_round (n + 1, 0, nd.l) (to_sel [0, 1, 4] 5 rfl rfl rfl rfl rfl ⟨(Le.refl _), ⟨(Le.refl _), ⟨(Le.refl _), ⟨(Le.refl _), ⟨?_, ⟨(Le.refl _), trivial⟩⟩⟩⟩⟩⟩ ⟨⟨rfl, Nat.le_refl _, fun j hj => match j, hj with | 0, _ => (Le.refl _) ⟩, ⟨?_, ⟨⟨by first | rfl | (simp; done), by first | exact Nat.le_refl _ | (simp; done) | (simp; omega), fun j hj => le_ren (by first | exact trivial | apply Go.Avm.Pack.below_rngsC)⟩, trivial⟩⟩⟩) ?_ ?_)
        ·show Le _ (renA (nat1 [0, 1, 4] 5) (tdV 2 0 nd.l))
         rw [tdV_ren (o' := 4) rfl]
         exact ow_tdV rfl (by omega)
        ·rw [show (gN x l.l b.l f (n + 1, 0, nd.l).1).1 = _ from congrArg Prod.fst hup]
         exact LeO.refl _
        ·exact ⟨by show n + 1 ≤ 60; omega, congrArg Prod.snd hup, Nat.zero_le _⟩
        ·show 60 - (n + 1) < 60 - n
         omega
      ·have hup := hup (by omega)
       rw [hdn0, List.nil_append] at hup
       have hkv : gv b.l (f + n) r = r.high - (0 : Int).tmod (r.high - r.low + 1) := by
        unfold gv
        rw [if_neg (by omega)]
       refine wp_to ?_ (grown_tailB R _ x b f n 0 (gv b.l (f + n) r) r O L g hs h18.2 hOl hr hkv (by decide) hgv nd hnd hq ?_)
       ·exact to_fr ⟨Le.refl _, Le.refl _, Le.refl _, Le.refl _, Le.refl _, Le.refl _, Le.refl _, Le.refl _, trivial⟩ rfl rfl
       ·refine vcQ [] (lkL [(5, [2, 3, 4, 9, 10, 11])]) (fun _ => []) (fun Q => (-9223372036854775808 ≤ (n : Int) + 1 ∧ (n : Int) + 1 ≤ 9223372036854775807) ∧ Q AEx.normal (St.mk [(2, encB b), (3, int i64 (f : Int)), (4, ref 0 0), (9, sl 1 0 (x.l.length) (x.l.length) true 1), (10, ow false 4 (0 + nd.l.length) 3), (11, int i64 ((n : Int) + 1))] [cells false 1 (nth [encPacks x]), cells false (x.l.length * 1) fun (a : Nat) => intsC (O.set (r.pack.toNat) (gv b.l (f + n) r)) a, cells false (L.length * 3) (rngsC L), cells false 3 (nth [int i64 r.pack, int i64 r.low, int i64 r.high]), cells false ((0 + nd.l.length) * 3) (rngsC nd.l)] g)) (fun _ => by kernel_rfl) ⟨(by omega), ?_⟩
        refine (next_round (n + 1, 0, nd.l) (to_sel [0, 1, 4] 5 rfl rfl rfl rfl rfl ⟨(Le.refl _), ⟨(Le.refl _), ⟨(Le.refl _), ⟨(Le.refl _), ⟨?_, ⟨(Le.refl _), trivial⟩⟩⟩⟩⟩⟩ ⟨⟨rfl, Nat.le_refl _, fun j hj => match j, hj with | 0, _ => (Le.refl _) ⟩, ⟨?_, ⟨⟨by first | rfl | (simp; done), by first | exact Nat.le_refl _ | (simp; done) | (simp; omega), fun j hj => le_ren (by first | exact trivial | apply Go.Avm.Pack.below_rngsC)⟩, trivial⟩⟩⟩) ?_ ?_)
        ·show Le _ (renA (nat1 [0, 1, 4] 5) (tdV 2 0 nd.l))
         rw [tdV_ren (o' := 4) rfl]
         exact ow_tdV rfl (by omega)
        ·rw [show (gN x l.l b.l f (n + 1, 0, nd.l).1).1 = _ from congrArg Prod.fst hup]
         exact LeO.refl _
        ·exact ⟨by show n + 1 ≤ 60; omega, congrArg Prod.snd hup, Nat.zero_le _⟩
        ·show 60 - (n + 1) < 60 - n
         omega
     ·refine vcQ [[1, 1, 1, 0, 1, 0, 0, 1, 0, 0, 1, 1, 1, 1, 1]] (lkL [(7, [2, 3, 4, 9, 10, 11, 12]), (8, [2, 3, 4, 9, 10, 11, 12, 40]), (9, [2, 3, 4, 9, 10, 11, 12, 13]), (10, [2, 3, 4, 9, 10, 11, 12, 13, 43]), (11, [2, 3, 4, 9, 10, 11, 12, 13])]) (fun _ => []) (fun Q => (fun (u1 : List AObj) => (fun (u2 : Int) => (fun (u3 : Int) => (fun (u4 : Nat × AV) => (fun (u5 : Nat × AV) => (fun (u6 : Int) => L.length - k ≤ c ∧ ((↑0 : Int) ≤ 1 ∧ 1 ≤ (↑(L.length - k) : Int)) ∧ 1 < c ∧ 1 ≤ 3 ∧ (0 ≤ r.pack ∧ r.pack < (x.l.length : Int)) ∧ r.pack.toNat + 1 ≤ x.l.length * 1 ∧ (decide (u3 ≥ 0) = true → Q (AEx.exit 1) (St.mk [(2, encB b), (3, int i64 (f : Int)), (4, ref 0 0), u5, u4, (11, int i64 (n : Int)), (12, ref 3 0), (40, AV.bool (decide (u3 ≥ 0)))] u1 g)) ∧ (decide (u3 ≥ 0) = false → (decide (u2 > 0) = true → (-9223372036854775808 ≤ u6 ∧ u6 ≤ 9223372036854775807) ∧ u2 ≠ 0 ∧ (0 ≤ Int.tmod u6 u2 ∧ Int.tmod u6 u2 < u2) ∧ 1 ≤ 1 ∧ Wp Tryd.prog R 86 0 Rd.top (bodyOf Tryd.prog 32) [1, 1, 1, 0, 1, 0, 0, 1, 0, 0, 1, 1, 1, 1, 1] (contQ Tryd.prog R 86 0 Rd.top (bodyOf Tryd.prog 32) Q []) (St.mk [(2, encB b), (3, int i64 (f : Int)), (4, ref 0 0), u5, u4, (11, int i64 (n : Int)), (12, ref 3 0), (13, int i64 (IntKind.wrap i64 (b.l.getD ((f + n) % b.l.length) 0)))] u1 g)) ∧ (decide (u2 > 0) = false → Wp Tryd.prog R 86 0 Rd.top (bodyOf Tryd.prog 32) [1, 1, 1, 0, 1, 0, 0, 1, 0, 0, 1, 1, 1, 1, 1] (contQ Tryd.prog R 86 0 Rd.top (bodyOf Tryd.prog 32) Q []) (St.mk [(2, encB b), (3, int i64 (f : Int)), (4, ref 0 0), u5, u4, (11, int i64 (n : Int)), (12, ref 3 0), (13, int i64 0), (43, AV.bool (decide (u2 > 0)))] u1 g)))) ((f : Int) + (n : Int))) ((9, sl 1 0 (x.l.length) (x.l.length) true 1))) ((10, sl 2 (k * 3 + 3) (L.length - k - 1) (c - 1) false 3))) (O.getD (r.pack.toNat) 0)) ((b.l.length : Int))) ([cells false 1 (nth [encPacks x]), cells false (x.l.length * 1) fun (a : Nat) => intsC O a, cells false (L.length * 3) (rngsC L), cells false 3 (nth [int i64 r.pack, int i64 r.low, int i64 r.high])])) (fun _ => by kernel_rfl) ⟨(by omega), ⟨(by omega), ⟨(by omega), ⟨(by omega), ⟨(by omega), ⟨(by omega), ⟨fun c1 => have c1 : O.getD (r.pack.toNat) 0 ≥ 0 := (of_decide_eq_true c1); ?_, fun c1 => have c1 : ¬O.getD (r.pack.toNat) 0 ≥ 0 := (of_decide_eq_false c1); ⟨fun c2 => have c2 : (b.l.length : Int) > 0 := (of_decide_eq_true c2); ⟨(by omega), ⟨(by omega), ⟨?_, ⟨(by omega), ?_⟩⟩⟩⟩, fun c2 => have c2 : ¬(b.l.length : Int) > 0 := (of_decide_eq_false c2); ?_⟩⟩⟩⟩⟩⟩⟩⟩
      ·have hdn := hdn c1
       refine vcQ [] (lkL [(5, [2, 3, 4, 9, 10, 11])]) (fun _ => []) (fun Q => (-9223372036854775808 ≤ (n : Int) + 1 ∧ (n : Int) + 1 ≤ 9223372036854775807) ∧ Q AEx.normal (St.mk [(2, encB b), (3, int i64 (f : Int)), (4, ref 0 0), (9, sl 1 0 (x.l.length) (x.l.length) true 1), (10, sl 2 (k * 3 + 3) (L.length - k - 1) (c - 1) false 3), (11, int i64 ((n : Int) + 1))] [cells false 1 (nth [encPacks x]), cells false (x.l.length * 1) fun (a : Nat) => intsC O a, cells false (L.length * 3) (rngsC L), cells false 3 (nth [int i64 r.pack, int i64 r.low, int i64 r.high])] g)) (fun _ => by kernel_rfl) ⟨(by omega), ?_⟩
       refine (next_round (n + 1, k + 1, L) (to_sel [0, 1, 2] 4 rfl rfl rfl rfl rfl ⟨(Le.refl _), ⟨(Le.refl _), ⟨(Le.refl _), ⟨(Le.refl _), ⟨?_, ⟨(Le.refl _), trivial⟩⟩⟩⟩⟩⟩ ⟨⟨rfl, Nat.le_refl _, fun j hj => match j, hj with | 0, _ => (Le.refl _) ⟩, ⟨?_, ⟨⟨by first | rfl | (simp; done), by first | exact Nat.le_refl _ | (simp; done) | (simp; omega), fun j hj => le_ren (by first | exact trivial | apply Go.Avm.Pack.below_rngsC)⟩, trivial⟩⟩⟩) ?_ ?_)
       ·show Le _ (renA (nat1 [0, 1, 2] 4) (tdV 2 (k + 1) L))
        rw [tdV_ren (o' := 2) rfl]
        exact sl_tdV (by omega) (by omega) (by omega)
       ·rw [show (gN x l.l b.l f (n + 1, k + 1, L).1).1 = _ from congrArg Prod.fst hdn]
        exact LeO.refl _
       ·exact ⟨by show n + 1 ≤ 60; omega, congrArg Prod.snd hdn, by show k + 1 ≤ L.length; omega⟩
       ·show 60 - (n + 1) < 60 - n
        omega
      ·exact ⟨Int.tmod_nonneg _ (by omega), Int.tmod_lt_of_pos _ (by omega)⟩
      ·have hup := hup (by omega)
       have hkv : gv b.l (f + n) r = r.high - (IntKind.i64.wrap (b.l.getD ((f + n) % b.l.length) 0) : Int).tmod (r.high - r.low + 1) := by
        unfold gv
        rw [if_pos (by omega)]
       refine wp_to ?_ (grown_tailA R _ x b f n _ (gv b.l (f + n) r) r O L g hs h18.2 hOl hr hkv (hbv (by omega)) hgv nd hnd hq (k + 1) (L.length - k - 1) (c - 1) (k * 3 + 3) (by omega) (by omega) (by omega) (by omega) (by omega) (fun h0 => ?_) (fun h0 => ?_))
       ·exact to_fr ⟨Le.refl _, Le.refl _, Le.refl _, Le.refl _, Le.refl _, Le.refl _, Le.refl _, Le.refl _, trivial⟩ rfl rfl
       ·have hnil : nd.l = [] := List.eq_nil_of_length_eq_zero h0
        rw [hnil, List.append_nil] at hup
        refine vcQ [] (lkL [(5, [2, 3, 4, 9, 10, 11])]) (fun _ => []) (fun Q => (-9223372036854775808 ≤ (n : Int) + 1 ∧ (n : Int) + 1 ≤ 9223372036854775807) ∧ Q AEx.normal (St.mk [(2, encB b), (3, int i64 (f : Int)), (4, ref 0 0), (9, sl 1 0 (x.l.length) (x.l.length) true 1), (10, sl 2 (k * 3 + 3) (L.length - k - 1) (c - 1) false 3), (11, int i64 ((n : Int) + 1))] [cells false 1 (nth [encPacks x]), cells false (x.l.length * 1) fun (a : Nat) => intsC (O.set (r.pack.toNat) (gv b.l (f + n) r)) a, cells false (L.length * 3) (rngsC L), cells false 3 (nth [int i64 r.pack, int i64 r.low, int i64 r.high])] g)) (fun _ => by kernel_rfl) ⟨(by omega), ?_⟩
        refine (next_round (n + 1, k + 1, L) (to_sel [0, 1, 2] 4 rfl rfl rfl rfl rfl ⟨(Le.refl _), ⟨(Le.refl _), ⟨(Le.refl _), ⟨(Le.refl _), ⟨?_, ⟨(Le.refl _), trivial⟩⟩⟩⟩⟩⟩ ⟨⟨rfl, Nat.le_refl _, fun j hj => match j, hj with | 0, _ => (Le.refl _) ⟩, ⟨?_, ⟨⟨by first | rfl | (simp; done), by first | exact Nat.le_refl _ | (simp; done) | (simp; omega), fun j hj => le_ren (by first | exact trivial | apply Go.Avm.Pack.below_rngsC)⟩, trivial⟩⟩⟩) ?_ ?_)
        ·show Le _ (renA (nat1 [0, 1, 2] 4) (tdV 2 (k + 1) L))
         rw [tdV_ren (o' := 2) rfl]
         exact sl_tdV (by omega) (by omega) (by omega)
        ·rw [show (gN x l.l b.l f (n + 1, k + 1, L).1).1 = _ from congrArg Prod.fst hup]
         exact LeO.refl _
        ·exact ⟨by show n + 1 ≤ 60; omega, congrArg Prod.snd hup, by show k + 1 ≤ L.length; omega⟩
        ·show 60 - (n + 1) < 60 - n
         omega
       ·refine vcQ [] (lkL [(5, [2, 3, 4, 9, 10, 11])]) (fun _ => []) (fun Q => (fun (u1 : Nat) => (-9223372036854775808 ≤ (n : Int) + 1 ∧ (n : Int) + 1 ≤ 9223372036854775807) ∧ Q AEx.normal (St.mk [(2, encB b), (3, int i64 (f : Int)), (4, ref 0 0), (9, sl 1 0 (x.l.length) (x.l.length) true 1), (10, sl 4 0 u1 u1 false 3), (11, int i64 ((n : Int) + 1))] [cells false 1 (nth [encPacks x]), cells false (x.l.length * 1) fun (a : Nat) => intsC (O.set (r.pack.toNat) (gv b.l (f + n) r)) a, dead, cells false 3 (nth [int i64 r.pack, int i64 r.low, int i64 r.high]), cells false (u1 * 3) (rngsC (List.drop (k + 1) L ++ nd.l))] g)) (L.length - k - 1 + nd.l.length)) (fun _ => by kernel_rfl) ⟨(by omega), ?_⟩
        refine (next_round (n + 1, 0, L.drop (k + 1) ++ nd.l) (to_sel [0, 1, 4] 5 rfl rfl rfl rfl rfl ⟨(Le.refl _), ⟨(Le.refl _), ⟨(Le.refl _), ⟨(Le.refl _), ⟨?_, ⟨(Le.refl _), trivial⟩⟩⟩⟩⟩⟩ ⟨⟨rfl, Nat.le_refl _, fun j hj => match j, hj with | 0, _ => (Le.refl _) ⟩, ⟨?_, ⟨⟨by first | rfl | (simp; done), by first | exact Nat.le_refl _ | (simp; done) | (simp; omega), fun j hj => le_ren (by first | exact trivial | apply Go.Avm.Pack.below_rngsC)⟩, trivial⟩⟩⟩) ?_ ?_)
        ·show Le _ (renA (nat1 [0, 1, 4] 5) (tdV 2 0 (L.drop (k + 1) ++ nd.l)))
         rw [tdV_ren (o' := 4) rfl]
         exact sl_tdV (by rw [List.length_append, List.length_drop]; omega) rfl (by omega)
        ·rw [show (gN x l.l b.l f (n + 1, 0, L.drop (k + 1) ++ nd.l).1).1 = _ from congrArg Prod.fst hup]
         exact LeO.refl _
        ·exact ⟨by show n + 1 ≤ 60; omega, congrArg Prod.snd hup, Nat.zero_le _⟩
        ·show 60 - (n + 1) < 60 - n
         omega
      ·have hup := hup (by omega)
       have hkv : gv b.l (f + n) r = r.high - (0 : Int).tmod (r.high - r.low + 1) := by
        unfold gv
        rw [if_neg (by omega)]
       refine wp_to ?_ (grown_tailA R _ x b f n 0 (gv b.l (f + n) r) r O L g hs h18.2 hOl hr hkv (by decide) hgv nd hnd hq (k + 1) (L.length - k - 1) (c - 1) (k * 3 + 3) (by omega) (by omega) (by omega) (by omega) (by omega) (fun h0 => ?_) (fun h0 => ?_))
       ·exact to_fr ⟨Le.refl _, Le.refl _, Le.refl _, Le.refl _, Le.refl _, Le.refl _, Le.refl _, Le.refl _, trivial⟩ rfl rfl
       ·have hnil : nd.l = [] := List.eq_nil_of_length_eq_zero h0
        rw [hnil, List.append_nil] at hup
        refine vcQ [] (lkL [(5, [2, 3, 4, 9, 10, 11])]) (fun _ => []) (fun Q => (-9223372036854775808 ≤ (n : Int) + 1 ∧ (n : Int) + 1 ≤ 9223372036854775807) ∧ Q AEx.normal (St.mk [(2, encB b), (3, int i64 (f : Int)), (4, ref 0 0), (9, sl 1 0 (x.l.length) (x.l.length) true 1), (10, sl 2 (k * 3 + 3) (L.length - k - 1) (c - 1) false 3), (11, int i64 ((n : Int) + 1))] [cells false 1 (nth [encPacks x]), cells false (x.l.length * 1) fun (a : Nat) => intsC (O.set (r.pack.toNat) (gv b.l (f + n) r)) a, cells false (L.length * 3) (rngsC L), cells false 3 (nth [int i64 r.pack, int i64 r.low, int i64 r.high])] g)) (fun _ => by kernel_rfl) ⟨(by omega), ?_⟩
        refine (next_round (n + 1, k + 1, L) (to_sel [0, 1, 2] 4 rfl rfl rfl rfl rfl ⟨(Le.refl _), ⟨(Le.refl _), ⟨(Le.refl _), ⟨(Le.refl _), ⟨?_, ⟨(Le.refl _), trivial⟩⟩⟩⟩⟩⟩ ⟨⟨rfl, Nat.le_refl _, fun j hj => match j, hj with | 0, _ => (Le.refl _) ⟩, ⟨?_, ⟨⟨by first | rfl | (simp; done), by first | exact Nat.le_refl _ | (simp; done) | (simp; omega), fun j hj => le_ren (by first | exact trivial | apply Go.Avm.Pack.below_rngsC)⟩, trivial⟩⟩⟩) ?_ ?_)
        ·show Le _ (renA (nat1 [0, 1, 2] 4) (tdV 2 (k + 1) L))
         rw [tdV_ren (o' := 2) rfl]
         exact sl_tdV (by omega) (by omega) (by omega)
        ·rw [show (gN x l.l b.l f (n + 1, k + 1, L).1).1 = _ from congrArg Prod.fst hup]
         exact LeO.refl _
        ·exact ⟨by show n + 1 ≤ 60; omega, congrArg Prod.snd hup, by show k + 1 ≤ L.length; omega⟩
        ·show 60 - (n + 1) < 60 - n
         omega
       ·refine vcQ [] (lkL [(5, [2, 3, 4, 9, 10, 11])]) (fun _ => []) (fun Q => (fun (u1 : Nat) => (-9223372036854775808 ≤ (n : Int) + 1 ∧ (n : Int) + 1 ≤ 9223372036854775807) ∧ Q AEx.normal (St.mk [(2, encB b), (3, int i64 (f : Int)), (4, ref 0 0), (9, sl 1 0 (x.l.length) (x.l.length) true 1), (10, sl 4 0 u1 u1 false 3), (11, int i64 ((n : Int) + 1))] [cells false 1 (nth [encPacks x]), cells false (x.l.length * 1) fun (a : Nat) => intsC (O.set (r.pack.toNat) (gv b.l (f + n) r)) a, dead, cells false 3 (nth [int i64 r.pack, int i64 r.low, int i64 r.high]), cells false (u1 * 3) (rngsC (List.drop (k + 1) L ++ nd.l))] g)) (L.length - k - 1 + nd.l.length)) (fun _ => by kernel_rfl) ⟨(by omega), ?_⟩
        refine (next_round (n + 1, 0, L.drop (k + 1) ++ nd.l) (to_sel [0, 1, 4] 5 rfl rfl rfl rfl rfl ⟨(Le.refl _), ⟨(Le.refl _), ⟨(Le.refl _), ⟨(Le.refl _), ⟨?_, ⟨(Le.refl _), trivial⟩⟩⟩⟩⟩⟩ ⟨⟨rfl, Nat.le_refl _, fun j hj => match j, hj with | 0, _ => (Le.refl _) ⟩, ⟨?_, ⟨⟨by first | rfl | (simp; done), by first | exact Nat.le_refl _ | (simp; done) | (simp; omega), fun j hj => le_ren (by first | exact trivial | apply Go.Avm.Pack.below_rngsC)⟩, trivial⟩⟩⟩) ?_ ?_)
        ·show Le _ (renA (nat1 [0, 1, 4] 5) (tdV 2 0 (L.drop (k + 1) ++ nd.l)))
         rw [tdV_ren (o' := 4) rfl]
         exact sl_tdV (by rw [List.length_append, List.length_drop]; omega) rfl (by omega)
        ·rw [show (gN x l.l b.l f (n + 1, 0, L.drop (k + 1) ++ nd.l).1).1 = _ from congrArg Prod.fst hup]
         exact LeO.refl _
        ·exact ⟨by show n + 1 ≤ 60; omega, congrArg Prod.snd hup, Nat.zero_le _⟩
        ·show 60 - (n + 1) < 60 - n
         omega
    ·have hn : n = 60 := by
      rcases Nat.lt_or_ge n 60 with h | h
      ·exfalso
       rcases c1 with h' | h' <;> omega
      ·omega
     subst hn
     refine ⟨_, To.refl _, vcQ [] (lkL [(14, [8])]) (fun _ => []) (fun Q => Q AEx.ret (St.mk [(8, sl 1 0 (x.l.length) (x.l.length) true 1)] [cells false 1 (nth [encPacks x]), cells false (x.l.length * 1) fun (a : Nat) => intsC (gN x l.l b.l f 60).fst a, cells false (L.length * 3) (rngsC L)] g)) (fun _ => by kernel_rfl) (?_)⟩
     refine (retQ_le (retQ_frz 0 [1] _ _ rfl trivial (by omega) (by exact ⟨(fun _ _ => (by first | exact trivial | apply Go.Avm.Pack.below_intsC)), ⟨⟨(by simp at * <;> omega), (by simp at * <;> omega)⟩, trivial⟩⟩) (by exact trivial) (by exact trivial) (by kernel_rfl) rfl rfl) (Le.of_eq ?_))
     show AV.fz (bif true && Nat.beq x.l.length x.l.length then .exa else .opn) _ _ _ = _
     rw [Nat.beq_refl]
     rfl
theorem c_grown (R : Res) (x : Ix) (l : KL Rng) (b : KL Int) (f : Nat) (hp : List AObj) (g : R.σ) (hs : small x) (hx : formedB x = true) (hk : l.k = .nil ∨ l.k = .opn) (h4 : l.l.length ≤ 4) (hl : ∀ r ∈ l.l, rangedB x r = true) (hf : f < 1000) (hb : ∀ v ∈ b.l, 0 ≤ v ∧ v ≤ 255) :
  Does Tryd.prog R 32 [encIx x, encR l, encB b, .int .i64 f] hp g (.ret (encI ⟨grownL x l.l b.l f, .exa⟩)) hp g := by
 have hpl := (grown_plan (f := f) hx hl h4 hb).1
 refine does_any' (fun R g => ?_) (by exact ⟨⟨trivial, trivial⟩, ⟨trivial, ⟨trivial, ⟨trivial, trivial⟩⟩⟩⟩) R hp g
 refine does_conv (grown_all R x l b f g hs hx hk h4 hl hf hb) ⟨Le.refl _, Le.refl _, Le.refl _, Le.refl _, trivial⟩ ?_
 show Le _ (.fz .exa 1 (grownL x l.l b.l f).length (fun i _ => .int .i64 ((grownL x l.l b.l f).getD i 0)))
 rw [hpl]
 refine leK_ok rfl (fun i j hi hj => ?_)
 have : j = 0 := by omega
 subst this
 show AV.int .i64 ((grownL x l.l b.l f).getD (0 + i * 1 + 0) 0) = _
 rw [show 0 + i * 1 + 0 = i by omega]
end Go.Avm.Pack
namespace Go.Avm.Pack
open Go Go.Avm Go.Proofs
open Go.IntKind (i64 u64)
open Go.Avm.AV (int bool any fz fp sl ow ref fn ifc val agg tup)
open Go.Avm.AObj (cells dead)
open Go.Avm.Oc (ret)
set_option maxRecDepth 4000

theorem all_tail (R : Res) (Q : AEx → St R.σ → Prop) (x : Ix) (l : KL Rng) (b : KL Int) (bq : KL Int) (e : Int) (n : Nat) (p : KL Int) (L : Nat → KL Int) (g : R.σ) (hs : small x) (hck : checkB x l.l = true) (hL : L = leftI x) (hbl : bq.l.length ≤ 8) (E : (e = 0 ∧ isPlan x bq.l ∧ rightB x l.l bq.l = true ∧ ∀ r, isPlan x r → rightB x l.l r = true → newerB r bq.l = false) ∨ (e = 5 ∧ ∀ r, isPlan x r → rightB x l.l r = false)) (hp : isPlan x p.l)
  (h1 : Q (.exit 1) ⟨[(1, encR l), (2, encB b), (3, .ref 0 0), (7, encI bq), (8, .int .i64 e), (9, encLs x.l.length L), (14, encI p), (82, .int .i64 n), (108, .bool (!((faultR x l.l p.l).1 == 0)))], [.cells false 1 (nth [encPacks x])], g⟩) (h2 : Q .normal ⟨[(1, encR l), (2, encB b), (3, .ref 0 0), (7, encI bq), (8, .int .i64 e), (9, encLs x.l.length L), (82, .int .i64 n), (116, encI p), (117, .int .i64 p.l.length), (118, .int .i64 p.l.length), (119, .bool (decide ((p.l.length : Int) < (p.l.length : Int))))], [.cells false 1 (nth [encPacks x])], g⟩) :
  Wp Tryd.prog R 137 0 Rd.top (bodyOf Tryd.prog 6) [1, 1, 1, 1, 1, 1, 0, 1, 0, 0, 1, 1, 0, 0, 1, 1, 1] Q ⟨[(1, encR l), (2, encB b), (3, .ref 0 0), (7, encI bq), (8, .int .i64 e), (9, encLs x.l.length L), (14, encI p), (82, .int .i64 n)], [.cells false 1 (nth [encPacks x])], g⟩ := by
 have hx := (check_parts hck).1
 have hg4 := (check_parts hck).2.1
 have h18 := formed_le hx
 have hpl := hp.1
 have hl6 : l.l.length < 1000000 := by omega
 have hp6 : p.l.length < 1000000 := by omega
 have hLl : ∀ j, (L j).l.length < 1000000 := by
  rw [hL]
  intro j
  have := left_len (x := x) (j := j)
  omega
 have hcan : (faultR x l.l p.l).2.2 = 0 := by
  unfold faultR
  rw [hck, isPlan_planned.2 hp]
  rfl
 have hin := planned_inP (isPlan_planned.2 hp)
 have hleft : rightB x l.l p.l = true → ∀ i, i < x.l.length → p.l.getD i 0 ≥ 0 → (L i).l.any (eqZ (p.l.getD i 0)) = true := fun hr i hi h0 => by
  have hka := keepsAll_of hck hp (right_keeps hck hp hr)
  have e1 : planOf p.l x.l.length i = p.l.getD i 0 := by unfold planOf; rw [if_pos hi]
  have hk := keeps_left hx hin hka hi (by rw [e1]; omega)
  rw [e1] at hk
  have h3 := left_has (x := x) (j := i) (k := (p.l.getD i 0).toNat)
  rw [hL, show p.l.getD i 0 = (((p.l.getD i 0).toNat : Nat) : Int) by omega, h3]
  exact decide_eq_true hk
 have hQr : ∀ st : St R.σ, (faultR x l.l p.l).1 = 0 → e = 0 ∧ newerB p.l bq.l = false ∧ p.l.length ≤ bq.l.length := fun _ h => by
  have hr : rightB x l.l p.l = true := by unfold rightB; rw [h]; rfl
  rcases E with ⟨e1, e2, _, e4⟩ | ⟨_, e2⟩
  ·exact ⟨e1, e4 _ hp hr, by rw [hpl, e2.1]; exact Nat.le_refl _⟩
  ·rw [e2 _ hp] at hr; cases hr
 refine vcQ [] (lkL [(19, [1, 2, 3, 7, 8, 9, 14, 15, 16, 82]), (20, [1, 2, 3, 7, 8, 9, 14, 15, 82, 106]), (21, [6]), (22, [1, 2, 3, 7, 8, 9, 14, 82, 108]), (23, [1, 2, 3, 7, 8, 9, 14, 82, 115]), (24, [6]), (25, [1, 2, 3, 7, 8, 9, 82, 116, 117, 118])]) (lkL [(19, [(3, ROrc.pcall (tup 2 (nth [AV.bool ((faultR x l.l p.l).fst == 0), AV.bool ((faultR x l.l p.l).snd.snd == 0)])))]), (23, [(5, ROrc.pcall (AV.bool (newerB p.l bq.l)))])]) (fun Q => (fun (u1 : List AObj) => (fun (u2 : Bool) => (fun (u3 : Bool) => 1 ≤ 1 ∧ (∀ (hp : List AObj) (g : R.σ), true = true ∧ Does Tryd.prog R 31 [encIx x, encR l, encI p] hp g (ret (tup 2 (nth [AV.bool u2, AV.bool u3]))) hp g) ∧ ((!u3) = true → Q AEx.ret (St.mk [(6, AV.bool false)] u1 g)) ∧ ((!u3) = false → ((!u2) = true → Q (AEx.exit 1) (St.mk [(1, encR l), (2, encB b), (3, ref 0 0), (7, encI bq), (8, int i64 e), (9, encLs (x.l.length) L), (14, encI p), (82, int i64 (n : Int)), (108, AV.bool !u2)] u1 g)) ∧ ((!u2) = false → ((!e != 0) = true → ∀ (hp : List AObj) (g : R.σ), true = true ∧ Does Tryd.prog R 34 [encI p, encI bq] hp g (ret (AV.bool (newerB p.l bq.l))) hp g) ∧ ((bif e != 0 then true else newerB p.l bq.l) = true → Q AEx.ret (St.mk [(6, AV.bool false)] u1 g)) ∧ ((bif e != 0 then true else newerB p.l bq.l) = false → Wp Tryd.prog R 137 0 Rd.top (bodyOf Tryd.prog 6) [1, 1, 1, 1, 1, 1, 0, 1, 0, 0, 1, 1, 0, 0, 1, 1, 1, 1, 1, 1, 1, 1, 0] (contQ Tryd.prog R 137 0 Rd.top (bodyOf Tryd.prog 6) Q [Kont.blk 2]) (St.mk [(1, encR l), (2, encB b), (3, ref 0 0), (7, encI bq), (8, int i64 e), (9, encLs (x.l.length) L), (82, int i64 (n : Int)), (116, encI p), (117, int i64 (p.l.length : Int)), (118, int i64 0)] u1 g))))) ((faultR x l.l p.l).snd.snd == 0)) ((faultR x l.l p.l).fst == 0)) ([cells false 1 (nth [encPacks x])])) (fun _ => by kernel_rfl) ⟨(by omega), ⟨(fun _ _ => ⟨rfl, (Go.Avm.Pack.c_right _ _ _ _ _ _ (by omega) (by omega))⟩), ⟨fun c1 => have c1 : ¬(faultR x l.l p.l).snd.snd = 0 := (beq_eq_false_iff_ne.mp ((Bool.not_eq_true' _).mp c1)); ?_, fun c1 => have c1 : (faultR x l.l p.l).snd.snd = 0 := (beq_iff_eq.mp ((Bool.not_eq_false' _).mp c1)); ⟨fun c2 => have c2 : ¬(faultR x l.l p.l).fst = 0 := (beq_eq_false_iff_ne.mp ((Bool.not_eq_true' _).mp c2)); ?_, fun c2 => have c2 : (faultR x l.l p.l).fst = 0 := (beq_iff_eq.mp ((Bool.not_eq_false' _).mp c2)); ⟨(fun hgd => (fun _ _ => ⟨rfl, (Go.Avm.Pack.c_newer _ _ _ _ _ (by omega) ?_)⟩)), ⟨fun c3 => have c3 : ¬e = 0 ∨ newerB p.l bq.l = true := ((cO_t c3).imp (fun h => (bne_iff_ne.mp h)) (fun h => h)); ?_, fun c3 => have c3 : e = 0 ∧ newerB p.l bq.l = false := ⟨(bne_eq_false_iff_eq.mp (cO_f c3).1), (cO_f c3).2⟩; ?_⟩⟩⟩⟩⟩⟩
 ·exact absurd hcan c1
 ·exact h1
 ·exact (hQr ⟨[], [], g⟩ (by assumption)).2.2
 ·exfalso
  obtain ⟨e1, e2, _⟩ := hQr ⟨[], [], g⟩ (by assumption)
  rcases c3 with h | h
  ·exact h e1
  ·rw [e2] at h; cases h
 ·have hright : rightB x l.l p.l = true := by
   have h0 : (faultR x l.l p.l).1 = 0 := by assumption
   unfold rightB; rw [h0]; rfl
  refine (wp_loop (by kernel_rfl) (fun (i : Nat) => ⟨[(1, encR l), (2, encB b), (3, ref 0 0), (7, encI bq), (8, int i64 e), (9, encLs (x.l.length) L), (82, int i64 (n : Int)), (116, encI p), (117, int i64 (p.l.length : Int)), (118, .int .i64 i)], [cells false 1 (nth [encPacks x])], g⟩) (fun (i : Nat) => (i ≤ p.l.length)) (fun (i : Nat) => (p.l.length - i)) 0 (to_fr ⟨(Le.refl _), ⟨(Le.refl _), ⟨(Le.refl _), ⟨(Le.refl _), ⟨(Le.refl _), ⟨(Le.refl _), ⟨(Le.refl _), ⟨(Le.refl _), ⟨(Le.refl _), ⟨(Le.of_eq (by kernel_rfl)), trivial⟩⟩⟩⟩⟩⟩⟩⟩⟩⟩ rfl rfl) ?_ (fun i hi => ?_))
  ·omega
  ·have hlen := hLl i
   refine vcQ [] (lkL [(26, [1, 2, 3, 7, 8, 9, 82, 116, 117, 118, 119]), (27, [1, 2, 3, 7, 8, 9, 17, 18, 82, 116, 117, 118]), (28, [1, 2, 3, 7, 8, 9, 82, 116, 117, 118, 133]), (29, [6]), (30, [1, 2, 3, 7, 8, 9, 82, 116, 117, 118])]) (lkL [(28, [(8, ROrc.pcall (AV.bool (List.any (L i).l (eqZ (p.l.getD i 0)))))])]) (fun Q => (fun (u1 : Int) => (fun (u2 : Int) => (fun (u3 : Int) => (fun (u4 : Bool) => (fun (u5 : AObj) => (decide (u3 < u1) = true → (0 ≤ u3 ∧ u3 < u1) ∧ 1 ≤ 1 ∧ (decide (u2 ≥ 0) = true → 0 ≤ u3 ∧ u3 < (x.l.length : Int)) ∧ (decide (u2 ≥ 0) = true → 1 ≤ 1) ∧ (decide (u2 ≥ 0) = true → ∀ (hp : List AObj) (g : R.σ), true = true ∧ Does Tryd.prog R 28 [encI (L i), int i64 u2] hp g (ret (AV.bool (List.any (L i).l (eqZ u2)))) hp g) ∧ (u4 = true → Q AEx.ret (St.mk [(6, AV.bool false)] [u5] g)) ∧ (u4 = false → (-9223372036854775808 ≤ u3 + 1 ∧ u3 + 1 ≤ 9223372036854775807) ∧ Q AEx.normal (St.mk [(1, encR l), (2, encB b), (3, ref 0 0), (7, encI bq), (8, int i64 e), (9, encLs (x.l.length) L), (82, int i64 (n : Int)), (116, encI p), (117, int i64 u1), (118, int i64 (u3 + 1))] [u5] g))) ∧ (decide (u3 < u1) = false → Q (AEx.exit 2) (St.mk [(1, encR l), (2, encB b), (3, ref 0 0), (7, encI bq), (8, int i64 e), (9, encLs (x.l.length) L), (82, int i64 (n : Int)), (116, encI p), (117, int i64 u1), (118, int i64 u3), (119, AV.bool (decide (u3 < u1)))] [u5] g))) (cells false 1 (nth [encPacks x]))) (bif decide (u2 ≥ 0) then !List.any (L i).l (eqZ u2) else false)) ((i : Int))) (p.l.getD i 0)) ((p.l.length : Int))) (fun _ => by kernel_rfl) ⟨fun c1 => have c1 : (i : Int) < (p.l.length : Int) := (of_decide_eq_true c1); ⟨(by omega), ⟨(by omega), ⟨(by omega), ⟨(by omega), ⟨(fun hgd => (fun _ _ => ⟨rfl, (Go.Avm.Pack.c_Contains_int _ _ _ _ _ (by omega))⟩)), ⟨fun c2 => have c2 : p.l.getD i 0 ≥ 0 ∧ List.any (L i).l (eqZ (p.l.getD i 0)) = false := ⟨(of_decide_eq_true (cA_t c2).1), ((Bool.not_eq_true' _).mp (cA_t c2).2)⟩; ?_, fun c2 => have c2 : ¬p.l.getD i 0 ≥ 0 ∨ List.any (L i).l (eqZ (p.l.getD i 0)) = true := ((cA_f c2).imp (fun h => (of_decide_eq_false h)) (fun h => ((Bool.not_eq_false' _).mp h))); ⟨(by omega), ?_⟩⟩⟩⟩⟩⟩⟩, fun c1 => have c1 : ¬(i : Int) < (p.l.length : Int) := (of_decide_eq_false c1); ?_⟩
   ·exfalso
    rw [hleft hright i (by omega) c2.1] at c2
    cases c2.2
   ·refine (next_round (i + 1) (to_fr ⟨(Le.refl _), ⟨(Le.refl _), ⟨(Le.refl _), ⟨(Le.refl _), ⟨(Le.refl _), ⟨(Le.refl _), ⟨(Le.refl _), ⟨(Le.refl _), ⟨(Le.refl _), ⟨(Le.of_eq (by kernel_rfl)), trivial⟩⟩⟩⟩⟩⟩⟩⟩⟩⟩ rfl rfl) ?_ ?_)
    ·omega
    ·omega
   ·have : i = p.l.length := by omega
    subst this
    exact ⟨_, To.refl _, h2⟩
theorem all_loop (R : Res) [Tab LT R] (x : Ix) (l : KL Rng) (b : KL Int) (bq : KL Int) (e : Int) (L : Nat → KL Int) (g : R.σ) (hs : small x) (hck : checkB x l.l = true) (hk : l.k = .nil ∨ l.k = .opn) (hby : ∀ v ∈ b.l, 0 ≤ v ∧ v ≤ 255) (hL : L = leftI x) (hbl : bq.l.length ≤ 8) (E : (e = 0 ∧ isPlan x bq.l ∧ rightB x l.l bq.l = true ∧ ∀ r, isPlan x r → rightB x l.l r = true → newerB r bq.l = false) ∨ (e = 5 ∧ ∀ r, isPlan x r → rightB x l.l r = false)) :
  Wp Tryd.prog R 137 0 Rd.top (bodyOf Tryd.prog 6) [1, 1, 1, 1, 1, 1, 0, 1, 0] (contQ Tryd.prog R 137 0 Rd.top (bodyOf Tryd.prog 6) (RetQ Tryd.prog R 0 [ResultVar.tmp 6] (ret (AV.bool true)) [] g) [Kont.blk 0, Kont.seq [1, 1, 1, 1, 1, 1, 1]])
   ⟨[(1, encR l), (2, encB b), (3, .ref 0 0), (7, encI bq), (8, .int .i64 e), (9, encLs x.l.length L), (82, .int .i64 0)], [.cells false 1 (nth [encPacks x])], g⟩ := by
 have hx := (check_parts hck).1
 have hg4 := (check_parts hck).2.1
 have hlr := (check_parts hck).2.2
 have h18 := formed_le hx
 refine (wp_loop (by kernel_rfl) (fun (n : Nat) => ⟨[(1, encR l), (2, encB b), (3, ref 0 0), (7, encI bq), (8, int i64 e), (9, encLs (x.l.length) L), (82, .int .i64 n)], [cells false 1 (nth [encPacks x])], g⟩) (fun (n : Nat) => (n ≤ 8)) (fun (n : Nat) => (8 - n)) 0 (to_fr ⟨(Le.refl _), ⟨(Le.refl _), ⟨(Le.refl _), ⟨(Le.refl _), ⟨(Le.refl _), ⟨(Le.refl _), ⟨(Le.of_eq (by kernel_rfl)), trivial⟩⟩⟩⟩⟩⟩⟩ rfl rfl) ?_ (fun n hi => ?_))
 ·omega
 ·obtain ⟨gp, hgp⟩ : ∃ v : KL Int, v = ⟨grownL x l.l b.l (n * 5), .exa⟩ := ⟨_, rfl⟩
  obtain ⟨dp, hdp⟩ : ∃ v : KL Int, v = ⟨drawnL x b.l n, .exa⟩ := ⟨_, rfl⟩
  refine vcQ [[1, 1, 1, 1, 1, 1, 0, 1, 0, 0, 1, 1, 0, 0, 1, 1, 1]] (lkL [(14, [1, 2, 3, 7, 8, 9, 82, 83]), (15, [1, 2, 3, 7, 8, 9, 13, 82]), (16, [1, 2, 3, 7, 8, 9, 13, 14, 82]), (17, [1, 2, 3, 7, 8, 9, 13, 14, 82, 93]), (18, [1, 2, 3, 7, 8, 9, 14, 82])]) (lkL [(16, [(5, ROrc.pcall (encI gp))]), (18, [(3, ROrc.pcall (encI dp))])]) (fun Q => (fun (u1 : Int) => (fun (u2 : AEx → St R.σ → Prop) => (fun (u3 : AObj) => (fun (u4 : Nat × AV) => (decide (u1 < 8) = true → 1 ≤ 1 ∧ (-9223372036854775808 ≤ u1 * 5 ∧ u1 * 5 ≤ 9223372036854775807) ∧ (∀ (hp : List AObj) (g : R.σ), true = true ∧ Does Tryd.prog R 32 [encIx x, encR l, encB b, int i64 (u1 * 5)] hp g (ret (encI gp)) hp g) ∧ (↑4 : Int) ≠ 0 ∧ ((Int.tmod u1 4 == 3) = true → 1 ≤ 1 ∧ (∀ (hp : List AObj) (g : R.σ), true = true ∧ Does Tryd.prog R 33 [encIx x, encB b, int i64 u1] hp g (ret (encI dp)) hp g) ∧ Wp Tryd.prog R 137 0 Rd.top (bodyOf Tryd.prog 6) [1, 1, 1, 1, 1, 1, 0, 1, 0, 0, 1, 1, 0, 0, 1, 1, 1] u2 (St.mk [(1, encR l), (2, encB b), (3, ref 0 0), (7, encI bq), (8, int i64 e), u4, (14, encI dp), (82, int i64 u1)] [u3] g)) ∧ ((Int.tmod u1 4 == 3) = false → Wp Tryd.prog R 137 0 Rd.top (bodyOf Tryd.prog 6) [1, 1, 1, 1, 1, 1, 0, 1, 0, 0, 1, 1, 0, 0, 1, 1, 1] u2 (St.mk [(1, encR l), (2, encB b), (3, ref 0 0), (7, encI bq), (8, int i64 e), u4, (13, int i64 u1), (14, encI gp), (82, int i64 u1), (93, AV.bool (Int.tmod u1 4 == 3))] [u3] g))) ∧ (decide (u1 < 8) = false → Q (AEx.exit 0) (St.mk [(1, encR l), (2, encB b), (3, ref 0 0), (7, encI bq), (8, int i64 e), u4, (82, int i64 u1), (83, AV.bool (decide (u1 < 8)))] [u3] g))) ((9, encLs (x.l.length) L))) (cells false 1 (nth [encPacks x]))) (contQ Tryd.prog R 137 0 Rd.top (bodyOf Tryd.prog 6) Q [Kont.blk 1, Kont.seq [1, 1, 1, 1, 1, 1, 0, 1, 0, 0, 1, 1, 1]])) ((n : Int))) (fun _ => by kernel_rfl) ⟨fun c1 => have c1 : (n : Int) < 8 := (of_decide_eq_true c1); ⟨(by omega), ⟨(by omega), ⟨?_, ⟨(by omega), ⟨fun c2 => have c2 : Int.tmod (n : Int) 4 = 3 := (beq_iff_eq.mp c2); ⟨(by omega), ⟨?_, ?_⟩⟩, fun c2 => have c2 : ¬Int.tmod (n : Int) 4 = 3 := (beq_eq_false_iff_ne.mp c2); ?_⟩⟩⟩⟩⟩, fun c1 => have c1 : ¬(n : Int) < 8 := (of_decide_eq_false c1); ?_⟩
  ·intro hp g
   subst hgp
   exact ⟨rfl, c_grown R x l b (n * 5) hp g hs hx hk hg4 hlr (by omega) hby⟩
  ·intro hp g
   subst hdp
   exact ⟨rfl, c_drawn R x b n hp g hs h18.1 (by omega) hby⟩
  ·refine wp_to ?_ (all_tail R _ x l b bq e n dp L g hs hck hL hbl E (by rw [hdp]; exact drawn_plan hby) ?_ ?_)
   ·exact to_fr ⟨Le.refl _, Le.refl _, Le.refl _, Le.refl _, Le.refl _, Le.refl _, Le.refl _, Le.refl _, trivial⟩ rfl rfl
   ·refine vcQ [] (lkL [(31, [1, 2, 3, 7, 8, 9, 82])]) (fun _ => []) (fun Q => (-9223372036854775808 ≤ (n : Int) + 1 ∧ (n : Int) + 1 ≤ 9223372036854775807) ∧ Q AEx.normal (St.mk [(1, encR l), (2, encB b), (3, ref 0 0), (7, encI bq), (8, int i64 e), (9, encLs (x.l.length) L), (82, int i64 ((n : Int) + 1))] [cells false 1 (nth [encPacks x])] g)) (fun _ => by kernel_rfl) ⟨(by omega), ?_⟩
    refine (next_round (n + 1) (to_fr ⟨(Le.refl _), ⟨(Le.refl _), ⟨(Le.refl _), ⟨(Le.refl _), ⟨(Le.refl _), ⟨(Le.refl _), ⟨(Le.of_eq (by kernel_rfl)), trivial⟩⟩⟩⟩⟩⟩⟩ rfl rfl) ?_ ?_)
    ·omega
    ·omega
   ·refine vcQ [] (lkL [(31, [1, 2, 3, 7, 8, 9, 82])]) (fun _ => []) (fun Q => (-9223372036854775808 ≤ (n : Int) + 1 ∧ (n : Int) + 1 ≤ 9223372036854775807) ∧ Q AEx.normal (St.mk [(1, encR l), (2, encB b), (3, ref 0 0), (7, encI bq), (8, int i64 e), (9, encLs (x.l.length) L), (82, int i64 ((n : Int) + 1))] [cells false 1 (nth [encPacks x])] g)) (fun _ => by kernel_rfl) ⟨(by omega), ?_⟩
    refine (next_round (n + 1) (to_fr ⟨(Le.refl _), ⟨(Le.refl _), ⟨(Le.refl _), ⟨(Le.refl _), ⟨(Le.refl _), ⟨(Le.refl _), ⟨(Le.of_eq (by kernel_rfl)), trivial⟩⟩⟩⟩⟩⟩⟩ rfl rfl) ?_ ?_)
    ·omega
    ·omega
  ·refine wp_to ?_ (all_tail R _ x l b bq e n gp L g hs hck hL hbl E (by rw [hgp]; exact grown_plan hx hlr hg4 hby) ?_ ?_)
   ·exact to_fr ⟨Le.refl _, Le.refl _, Le.refl _, Le.refl _, Le.refl _, Le.refl _, Le.refl _, Le.refl _, trivial⟩ rfl rfl
   ·refine vcQ [] (lkL [(31, [1, 2, 3, 7, 8, 9, 82])]) (fun _ => []) (fun Q => (-9223372036854775808 ≤ (n : Int) + 1 ∧ (n : Int) + 1 ≤ 9223372036854775807) ∧ Q AEx.normal (St.mk [(1, encR l), (2, encB b), (3, ref 0 0), (7, encI bq), (8, int i64 e), (9, encLs (x.l.length) L), (82, int i64 ((n : Int) + 1))] [cells false 1 (nth [encPacks x])] g)) (fun _ => by kernel_rfl) ⟨(by omega), ?_⟩
    refine (next_round (n + 1) (to_fr ⟨(Le.refl _), ⟨(Le.refl _), ⟨(Le.refl _), ⟨(Le.refl _), ⟨(Le.refl _), ⟨(Le.refl _), ⟨(Le.of_eq (by kernel_rfl)), trivial⟩⟩⟩⟩⟩⟩⟩ rfl rfl) ?_ ?_)
    ·omega
    ·omega
   ·refine vcQ [] (lkL [(31, [1, 2, 3, 7, 8, 9, 82])]) (fun _ => []) (fun Q => (-9223372036854775808 ≤ (n : Int) + 1 ∧ (n : Int) + 1 ≤ 9223372036854775807) ∧ Q AEx.normal (St.mk [(1, encR l), (2, encB b), (3, ref 0 0), (7, encI bq), (8, int i64 e), (9, encLs (x.l.length) L), (82, int i64 ((n : Int) + 1))] [cells false 1 (nth [encPacks x])] g)) (fun _ => by kernel_rfl) ⟨(by omega), ?_⟩
    refine (next_round (n + 1) (to_fr ⟨(Le.refl _), ⟨(Le.refl _), ⟨(Le.refl _), ⟨(Le.refl _), ⟨(Le.refl _), ⟨(Le.refl _), ⟨(Le.of_eq (by kernel_rfl)), trivial⟩⟩⟩⟩⟩⟩⟩ rfl rfl) ?_ ?_)
    ·omega
    ·omega
  ·refine ⟨_, To.refl _, vcQ [] (lkL [(32, [6])]) (lkL [(32, [(0, ROrc.pcall (AV.bool true))])]) (fun Q => (∀ (hp : List AObj) (g : R.σ), true = true ∧ Does Tryd.prog R 8 [] hp g (ret (AV.bool true)) hp g) ∧ Q AEx.ret (St.mk [(6, AV.bool true)] [cells false 1 (nth [encPacks x])] g)) (fun _ => by kernel_rfl) ⟨(fun _ _ => ⟨rfl, (Go.Avm.Pack.c_works _ _ _)⟩), ?_⟩⟩
   refine (retQ_le (retQ_drop _ _ rfl trivial trivial rfl) (Le.refl _))
theorem c_PackAll (R : Res) [Tab LT R] (x : Ix) (l : KL Rng) (b : KL Int) (g : R.σ) (hk : l.k = .nil ∨ l.k = .opn) (hby : ∀ v ∈ b.l, 0 ≤ v ∧ v ≤ 255) : Does Tryd.prog R 6 [encIx x, encR l, encB b] [] g (.ret (.bool true)) [] g := by
 refine spec_of_wp (nt := 137) (rs := [.tmp 6]) (k0 := 0) (by kernel_rfl) (by kernel_rfl) (by kernel_rfl) rfl ?_
 cases hsm : smallB x 8 with
 | false =>
   refine vcQ [] (lkL [(0, [1, 2, 3]), (1, [1, 2, 3, 32]), (2, [6]), (3, [1, 2, 3, 7, 8]), (4, [1, 2, 3, 7, 8, 9, 10])]) (lkL [(1, [(1, ROrc.pcall (AV.bool false)), (11, ROrc.pcall (AV.bool (checkB x l.l)))]), (2, [(0, ROrc.pcall (AV.bool true))]), (3, [(2, ROrc.pcall (tup 2 (nth [encI (KL.mk (bestR x l.l).fst Fz.auto), int i64 (bestR x l.l).snd])))])]) (fun Q => 1 ≤ 1 ∧ (∀ (hp : List AObj) (g : R.σ), true = true ∧ Does Tryd.prog R 7 [encIx x, int i64 8] hp g (ret (AV.bool false)) hp g) ∧ (false = true → 1 ≤ 1) ∧ (false = true → ∀ (hp : List AObj) (g : R.σ), true = true ∧ Does Tryd.prog R 29 [encIx x, encR l] hp g (ret (AV.bool (checkB x l.l))) hp g) ∧ (true = true → (∀ (hp : List AObj) (g : R.σ), true = true ∧ Does Tryd.prog R 8 [] hp g (ret (AV.bool true)) hp g) ∧ Q AEx.ret (St.mk [(6, AV.bool true)] [cells false 1 (nth [encPacks x])] g)) ∧ (true = false → 1 ≤ 1 ∧ (∀ (hp : List AObj) (g : R.σ), true = true ∧ Does Tryd.prog R 17 [encIx x, encR l] hp g (ret (tup 2 (nth [fz Fz.auto 1 ((bestR x l.l).fst.length) fun (i x_2 : Nat) => int i64 ((bestR x l.l).fst.getD i 0), int i64 (bestR x l.l).snd]))) hp g) ∧ False)) (fun _ => by kernel_rfl) ⟨(by omega), ⟨(fun _ _ => ⟨rfl, (does_bool hsm (Go.Avm.Pack.c_Small _ _ _ _ _ (by decide)))⟩), ⟨(by omega), ⟨(fun hgd => (fun _ _ => ⟨rfl, (Go.Avm.Pack.c_fine _ _ _ _ _ (by simp at * <;> omega) (by simp at * <;> omega) (by simp at * <;> omega))⟩)), ⟨fun _ => ⟨(fun _ _ => ⟨rfl, (Go.Avm.Pack.c_works _ _ _)⟩), ?_⟩, fun h => (nomatch h)⟩⟩⟩⟩⟩
   refine (retQ_le (retQ_drop _ _ rfl trivial trivial rfl) (Le.refl _))
 | true =>
   obtain ⟨hs, hr⟩ := small_of hsm
   cases hcnd : (bif (bif false then true else decide ((l.l.length : Int) > 9)) then true else !(checkB x l.l)) with
   | true =>
     refine vcQ [] (lkL [(0, [1, 2, 3]), (1, [1, 2, 3, 32]), (2, [6]), (3, [1, 2, 3, 7, 8]), (4, [1, 2, 3, 7, 8, 9, 10])]) (lkL [(1, [(1, ROrc.pcall (AV.bool true)), (11, ROrc.pcall (AV.bool (checkB x l.l)))]), (2, [(0, ROrc.pcall (AV.bool true))]), (3, [(2, ROrc.pcall (tup 2 (nth [encI (KL.mk (bestR x l.l).fst Fz.auto), int i64 (bestR x l.l).snd])))])]) (fun Q => (fun (u1 : Bool) => 1 ≤ 1 ∧ (∀ (hp : List AObj) (g : R.σ), true = true ∧ Does Tryd.prog R 7 [encIx x, int i64 8] hp g (ret (AV.bool true)) hp g) ∧ ((!u1) = true → 1 ≤ 1) ∧ ((!u1) = true → ∀ (hp : List AObj) (g : R.σ), true = true ∧ Does Tryd.prog R 29 [encIx x, encR l] hp g (ret (AV.bool (checkB x l.l))) hp g) ∧ ((bif u1 then true else !checkB x l.l) = true → (∀ (hp : List AObj) (g : R.σ), true = true ∧ Does Tryd.prog R 8 [] hp g (ret (AV.bool true)) hp g) ∧ Q AEx.ret (St.mk [(6, AV.bool true)] [cells false 1 (nth [encPacks x])] g)) ∧ ((bif u1 then true else !checkB x l.l) = false → 1 ≤ 1 ∧ (∀ (hp : List AObj) (g : R.σ), true = true ∧ Does Tryd.prog R 17 [encIx x, encR l] hp g (ret (tup 2 (nth [fz Fz.auto 1 ((bestR x l.l).fst.length) fun (i x_2 : Nat) => int i64 ((bestR x l.l).fst.getD i 0), int i64 (bestR x l.l).snd]))) hp g) ∧ False)) (bif false then true else decide ((l.l.length : Int) > 9))) (fun _ => by kernel_rfl) ⟨(by omega), ⟨(fun _ _ => ⟨rfl, (does_bool hsm (Go.Avm.Pack.c_Small _ _ _ _ _ (by decide)))⟩), ⟨(by omega), ⟨(fun hgd => (fun _ _ => ⟨rfl, (Go.Avm.Pack.c_fine _ _ _ _ _ (by omega) (by omega) (by simp at * <;> omega))⟩)), ⟨fun _ => ⟨(fun _ _ => ⟨rfl, (Go.Avm.Pack.c_works _ _ _)⟩), ?_⟩, fun hcc => (nomatch (hcnd.symm.trans hcc))⟩⟩⟩⟩⟩
     refine (retQ_le (retQ_drop _ _ rfl trivial trivial rfl) (Le.refl _))
   | false =>
     have hl : l.l.length < 1000000 := by simp at hcnd; omega
     have hck : checkB x l.l = true := by simp at hcnd; exact hcnd.2
     have hx := (check_parts hck).1
     have hg4 := (check_parts hck).2.1
     have hlr := (check_parts hck).2.2
     have h18 := formed_le hx
     have hbs := best_some hck
     have bp := best_pick hck
     obtain ⟨L, hL⟩ : ∃ L : Nat → KL Int, L = leftI x := ⟨_, rfl⟩
     have hLl : ∀ j, (L j).l.length < 1000000 := by
      rw [hL]
      intro j
      have := left_len (x := x) (j := j)
      omega
     obtain ⟨bq, hbq⟩ : ∃ v : KL Int, v = ⟨(bestR x l.l).1, .auto⟩ := ⟨_, rfl⟩
     obtain ⟨e, he⟩ : ∃ e, e = (bestR x l.l).2 := ⟨_, rfl⟩
     have E : (e = 0 ∧ isPlan x bq.l ∧ rightB x l.l bq.l = true ∧ ∀ r, isPlan x r → rightB x l.l r = true → newerB r bq.l = false) ∨ (e = 5 ∧ ∀ r, isPlan x r → rightB x l.l r = false) := by
      have hq1 : (bestR x l.l).1 = bq.l := by rw [hbq]
      rw [hq1] at bp
      cases hsr : someRight x l.l with
      | true =>
        rw [hsr] at hbs
        obtain ⟨q, hq, hqr⟩ := (someRight_iff hck).1 hsr
        refine .inl ⟨by rw [he, hbs]; rfl, ?_⟩
        rcases bp with ⟨_, h⟩ | ⟨h1, _, h3, h4⟩
        ·rw [h q hq] at hqr; cases hqr
        ·refine ⟨h1, h3, fun r hr hrr => ?_⟩
         cases hn : newerB r bq.l with
         | false => rfl
         | true =>
           by_cases hne : r = bq.l
           ·rw [hne] at hn; exact (newer_asym hn hn).elim
           ·exact (newer_asym hn (h4 r hr hrr hne)).elim
      | false =>
        rw [hsr] at hbs
        refine .inr ⟨by rw [he, hbs]; rfl, fun r hr => ?_⟩
        cases hn : rightB x l.l r with
        | false => rfl
        | true =>
          rw [(someRight_iff hck).2 ⟨r, hr, hn⟩] at hsr
          cases hsr
     have hbl : bq.l.length ≤ 8 := by
      have hq1 : (bestR x l.l).1 = bq.l := by rw [hbq]
      rw [hq1] at bp
      rcases bp with ⟨h1, _⟩ | ⟨h1, _⟩
      ·rw [h1]; exact Nat.zero_le _
      ·have := h1.1; omega
     refine vcQ [] (lkL [(0, [1, 2, 3]), (1, [1, 2, 3, 32]), (2, [6]), (3, [1, 2, 3, 7, 8]), (4, [1, 2, 3, 7, 8, 9, 10]), (5, [1, 2, 3, 7, 8, 9, 62]), (6, [6]), (7, [1, 2, 3, 7, 8, 9, 64]), (8, [1, 2, 3, 7, 8, 9, 68]), (9, [6]), (10, [1, 2, 3, 7, 8, 9, 11, 12]), (11, [1, 2, 3, 7, 8, 9, 81]), (12, [6]), (13, [1, 2, 3, 7, 8, 9, 82])]) (lkL [(1, [(1, ROrc.pcall (AV.bool true)), (11, ROrc.pcall (AV.bool true))]), (2, [(0, ROrc.pcall (AV.bool true))]), (3, [(2, ROrc.pcall (tup 2 (nth [encI bq, int i64 e])))]), (4, [(1, ROrc.pcall (tup 2 (nth [encLs (x.l.length) L, int i64 0])))]), (8, [(2, ROrc.pcall (AV.bool (plannedB x bq.l)))]), (10, [(3, ROrc.pcall (tup 2 (nth [AV.bool ((faultR x l.l bq.l).fst == 0), AV.bool ((faultR x l.l bq.l).snd.snd == 0)])))])]) (fun Q => (fun (u1 : Bool) => (fun (u2 : St R.σ) => (fun (u3 : Bool) => (fun (u4 : St R.σ) => (fun (u5 : Bool) => (fun (u6 : AEx → St R.σ → Prop) => 1 ≤ 1 ∧ (∀ (hp : List AObj) (g : R.σ), true = true ∧ Does Tryd.prog R 7 [encIx x, int i64 8] hp g (ret (AV.bool true)) hp g) ∧ ((!u1) = true → 1 ≤ 1) ∧ ((!u1) = true → ∀ (hp : List AObj) (g : R.σ), true = true ∧ Does Tryd.prog R 29 [encIx x, encR l] hp g (ret (AV.bool true)) hp g) ∧ ((bif u1 then true else false) = true → (∀ (hp : List AObj) (g : R.σ), true = true ∧ Does Tryd.prog R 8 [] hp g (ret (AV.bool true)) hp g) ∧ Q AEx.ret (St.mk [(6, AV.bool true)] [cells false 1 (nth [encPacks x])] g)) ∧ ((bif u1 then true else false) = false → 1 ≤ 1 ∧ (∀ (hp : List AObj) (g : R.σ), true = true ∧ Does Tryd.prog R 17 [encIx x, encR l] hp g (ret (tup 2 (nth [encI bq, int i64 e]))) hp g) ∧ 1 ≤ 1 ∧ (∀ (hp : List AObj) (g : R.σ), true = true ∧ Does Tryd.prog R 9 [encIx x] hp g (ret (tup 2 (nth [encLs (x.l.length) L, int i64 0]))) hp g) ∧ ((!bif bif e != 0 then e != 5 else false then true else false) = true → 1 ≤ 1) ∧ (u3 = true → Q AEx.ret u4) ∧ (u3 = false → ((e == 0) = true → 1 ≤ 1 ∧ (∀ (hp : List AObj) (g : R.σ), true = true ∧ Does Tryd.prog R 30 [encIx x, encI bq] hp g (ret (AV.bool (plannedB x bq.l))) hp g) ∧ ((!plannedB x bq.l) = true → Q AEx.ret u4) ∧ ((!plannedB x bq.l) = false → 1 ≤ 1 ∧ (∀ (hp : List AObj) (g : R.σ), true = true ∧ Does Tryd.prog R 31 [encIx x, encR l, encI bq] hp g (ret (tup 2 (nth [AV.bool ((faultR x l.l bq.l).fst == 0), AV.bool ((faultR x l.l bq.l).snd.snd == 0)]))) hp g) ∧ (u5 = true → Q AEx.ret u4) ∧ (u5 = false → Wp Tryd.prog R 137 0 Rd.top (bodyOf Tryd.prog 6) [1, 1, 1, 1, 1, 1, 0, 1, 0] u6 u2))) ∧ ((e == 0) = false → Wp Tryd.prog R 137 0 Rd.top (bodyOf Tryd.prog 6) [1, 1, 1, 1, 1, 1, 0, 1, 0] u6 u2)))) (contQ Tryd.prog R 137 0 Rd.top (bodyOf Tryd.prog 6) Q [Kont.blk 0, Kont.seq [1, 1, 1, 1, 1, 1, 1]])) (bif !(faultR x l.l bq.l).fst == 0 then true else !(faultR x l.l bq.l).snd.snd == 0)) (St.mk [(6, AV.bool false)] [cells false 1 (nth [encPacks x])] g)) (bif bif bif e != 0 then e != 5 else false then true else false then true else (x.l.length : Int) != (x.l.length : Int))) (St.mk [(1, encR l), (2, encB b), (3, ref 0 0), (7, encI bq), (8, int i64 e), (9, encLs (x.l.length) L), (82, int i64 0)] [cells false 1 (nth [encPacks x])] g)) (bif false then true else decide ((l.l.length : Int) > 9))) (fun _ => by kernel_rfl) ⟨(by omega), ⟨(fun _ _ => ⟨rfl, (does_bool hsm (Go.Avm.Pack.c_Small _ _ _ _ _ (by decide)))⟩), ⟨(by omega), ⟨(fun hgd => (fun _ _ => ⟨rfl, (does_bool hck (Go.Avm.Pack.c_fine _ _ _ _ _ (by omega) (by omega) (by omega)))⟩)), ⟨fun c1 => have c1 : (false = true ∨ (l.l.length : Int) > 9) ∧ true = true := ⟨((cO_t (cA_t c1).1).imp (fun h => h) (fun h => (of_decide_eq_true h))), (cA_t c1).2⟩; ⟨(fun _ _ => ⟨rfl, (Go.Avm.Pack.c_works _ _ _)⟩), ?_⟩, fun c1 => have c1 : false = false ∧ ¬(l.l.length : Int) > 9 ∨ true = false := ((cA_f c1).imp (fun h => ⟨(cO_f h).1, (of_decide_eq_false (cO_f h).2)⟩) (fun h => h)); ⟨(by omega), ⟨?_, ⟨(by omega), ⟨(fun _ _ => ⟨rfl, (Go.Avm.Pack.c_TrimL _ _ _ _ _ (by omega) (by omega) hL)⟩), ⟨(by omega), ⟨fun c2 => have c2 : (¬e = 0 ∧ ¬e = 5) ∧ true = true ∨ ¬(x.l.length : Int) = (x.l.length : Int) := ((cO_t c2).imp (fun h => ⟨⟨(bne_iff_ne.mp (cA_t (cA_t h).1).1), (bne_iff_ne.mp (cA_t (cA_t h).1).2)⟩, (cA_t h).2⟩) (fun h => (bne_iff_ne.mp h))); ?_, fun c2 => have c2 : ((e = 0 ∨ e = 5) ∨ true = false) ∧ (x.l.length : Int) = (x.l.length : Int) := ⟨((cA_f (cO_f c2).1).imp (fun h => ((cA_f h).imp (fun h => (bne_eq_false_iff_eq.mp h)) (fun h => (bne_eq_false_iff_eq.mp h)))) (fun h => h)), (bne_eq_false_iff_eq.mp (cO_f c2).2)⟩; ⟨fun c3 => have c3 : e = 0 := (beq_iff_eq.mp c3); ⟨(by omega), ⟨(fun _ _ => ⟨rfl, (Go.Avm.Pack.c_Plan _ _ _ _ _ (by omega) (by omega))⟩), ⟨fun c4 => have c4 : plannedB x bq.l = false := ((Bool.not_eq_true' _).mp c4); ?_, fun c4 => have c4 : plannedB x bq.l = true := ((Bool.not_eq_false' _).mp c4); ⟨(by omega), ⟨(fun _ _ => ⟨rfl, (Go.Avm.Pack.c_right _ _ _ _ _ _ (by omega) (by omega))⟩), ⟨fun c5 => have c5 : ¬(faultR x l.l bq.l).fst = 0 ∨ ¬(faultR x l.l bq.l).snd.snd = 0 := ((cO_t c5).imp (fun h => (beq_eq_false_iff_ne.mp ((Bool.not_eq_true' _).mp h))) (fun h => (beq_eq_false_iff_ne.mp ((Bool.not_eq_true' _).mp h)))); ?_, fun c5 => have c5 : (faultR x l.l bq.l).fst = 0 ∧ (faultR x l.l bq.l).snd.snd = 0 := ⟨(beq_iff_eq.mp ((Bool.not_eq_false' _).mp (cO_f c5).1)), (beq_iff_eq.mp ((Bool.not_eq_false' _).mp (cO_f c5).2))⟩; ?_⟩⟩⟩⟩⟩⟩, fun c3 => have c3 : ¬e = 0 := (beq_eq_false_iff_ne.mp c3); ?_⟩⟩⟩⟩⟩⟩⟩⟩⟩⟩⟩⟩
     ·refine (retQ_le (retQ_drop _ _ rfl trivial trivial rfl) (Le.refl _))
     ·intro hp g; subst hbq he; exact ⟨rfl, c_Best R x l hp g hs hl⟩
     ·exfalso
      rcases c2 with ⟨⟨h1, h2⟩, _⟩ | h
      ·rcases E with ⟨h, _⟩ | ⟨h, _⟩
       ·exact h1 h
       ·exact h2 h
      ·exact h rfl
     ·exfalso
      rcases E with ⟨_, h, _⟩ | ⟨h, _⟩
      ·rw [isPlan_planned.2 h] at c4; cases c4
      ·omega
     ·exfalso
      rcases E with ⟨_, h, h2, _⟩ | ⟨h, _⟩
      ·have hcan : (faultR x l.l bq.l).2.2 = 0 := by
        unfold faultR
        rw [hck, isPlan_planned.2 h]
        rfl
       rcases c5 with h' | h'
       ·unfold rightB at h2
        exact h' (by simpa using h2)
       ·exact h' hcan
      ·omega
     ·exact all_loop R x l b bq e L g hs hck hk hby hL hbl E
     ·exact all_loop R x l b bq e L g hs hck hk hby hL hbl E
end Go.Avm.Pack
namespace Go.Avm.Pack
open Go Go.Avm Go.Proofs
open Go.IntKind (i64 u64)
open Go.Avm.AV (int bool any fz fp sl ow ref fn ifc val agg tup)
open Go.Avm.AObj (cells dead)
open Go.Avm.Oc (ret)
set_option maxRecDepth 4000

def QK (l : KL Rng) : Prop := l.k = .nil ∨ l.k = .opn
theorem arg_rngsQ : Arg Tryd.prog 34 QK encR := arg_rngsK
end Go.Avm.Pack
namespace Go.Proofs.YthaoambmnjfdlaaDoor
open Go Go.Avm Go.Avm.Pack Go.WideShapes Go.ChangeShapes Go.ChangeAt
def packAll_fill (cs : Array Value) : Obj → Obj
 | .cells _ t frozen => .cells cs t frozen
 | o => o
noncomputable def packAll_world (os : Os) : World :=
 { World.holding Tryd.prog os ⟨#[], #[], []⟩ with heap := ((World.holding Tryd.prog os ⟨#[], #[], []⟩).heap.modify 0 (packAll_fill #[.int .u8 0, .int .u8 1, .int .u8 28, .int .u8 2, .int .u8 29, .int .u8 14, .int .u8 24, .int .u8 3, .int .u8 30, .int .u8 22, .int .u8 20, .int .u8 15, .int .u8 25, .int .u8 17, .int .u8 4, .int .u8 8, .int .u8 31, .int .u8 27, .int .u8 13, .int .u8 23, .int .u8 21, .int .u8 19, .int .u8 16, .int .u8 7, .int .u8 26, .int .u8 12, .int .u8 18, .int .u8 6, .int .u8 11, .int .u8 5, .int .u8 10, .int .u8 9])).modify 1 (packAll_fill #[.int .u8 0, .int .u8 1, .int .u8 56, .int .u8 2, .int .u8 57, .int .u8 49, .int .u8 28, .int .u8 3, .int .u8 61, .int .u8 58, .int .u8 42, .int .u8 50, .int .u8 38, .int .u8 29, .int .u8 17, .int .u8 4, .int .u8 62, .int .u8 47, .int .u8 59, .int .u8 36, .int .u8 45, .int .u8 43, .int .u8 51, .int .u8 22, .int .u8 53, .int .u8 39, .int .u8 33, .int .u8 30, .int .u8 24, .int .u8 18, .int .u8 12, .int .u8 5, .int .u8 63, .int .u8 55, .int .u8 48, .int .u8 27, .int .u8 60, .int .u8 41, .int .u8 37, .int .u8 16, .int .u8 46, .int .u8 35, .int .u8 44, .int .u8 21, .int .u8 52, .int .u8 32, .int .u8 23, .int .u8 11, .int .u8 54, .int .u8 26, .int .u8 40, .int .u8 15, .int .u8 34, .int .u8 20, .int .u8 31, .int .u8 10, .int .u8 25, .int .u8 14, .int .u8 19, .int .u8 9, .int .u8 13, .int .u8 8, .int .u8 7, .int .u8 6]) }
theorem packAll_met (os : Os) : laidMet Tryd.prog Rows.packAllRow.laid ((packAll_world os).forCall (fun _ _ => 0) ⟨#[], #[.agg #[.slice none 0 0], .slice none 0 0, .slice none 0 0], []⟩).memory :=
 laidMet_of_run' 8 (by kernel_rfl) (by kernel_rfl)
theorem packAll_reads (os : Os) {H : Type} (enc : TypeId × Value → H) : ∃ places, DataW.whole enc Tryd.prog ((packAll_world os).forCall (fun _ _ => 0) ⟨#[], #[.agg #[.slice none 0 0], .slice none 0 0, .slice none 0 0], []⟩).memory Tryd.f6.params.toList Rows.packAllSpec.vars false (#[.agg #[.slice none 0 0], .slice none 0 0, .slice none 0 0] : Array Value).toList 8 = some ([.agg [.nil], .nil, .nil], [], places) :=
 ⟨[], by kernel_rfl⟩
theorem packAll_tabs (W : World) (h : laidMetH Tryd.prog Rows.packAllRow.laid W) : Tabs gsT (memOf W) := by
 have h : laidMet Tryd.prog [("math/bits.deBruijn32tab", Lib.tabData .u8 tab32), ("math/bits.deBruijn64tab", Lib.tabData .u8 tab64)] W := h
 exact tabs_cons (t := 140) (e := 5) (n := 32) (by kernel_rfl) (by kernel_rfl) Tryd.underlying140 Tryd.underlying5 (by kernel_rfl) (by kernel_rfl) h
  (fun h => tabs_cons (t := 141) (e := 5) (n := 64) (by kernel_rfl) (by kernel_rfl) Tryd.underlying141 Tryd.underlying5 (by kernel_rfl) (by kernel_rfl) h (fun _ => tabs_nil))
set_option maxRecDepth 100000 in
theorem packAll_lifted (os : Os) (started : os.Started) (H : Type) (enc : TypeId × Value → H) (F : Stop.Interp) :
  ReturnsInHanded {} Tryd.checked os 6 .any ((OpenSpec.ofChange Rows.packAllSpec).preRow enc Tryd.prog Tryd.f6 Rows.packAllRow.domain Rows.packAllRow.apart Rows.packAllRow.laid) (((OpenSpec.ofChange Rows.packAllSpec).at F).post enc Tryd.prog Tryd.f6 Rows.packAllRow.apart Rows.packAllRow.fresh Rows.packAllRow.handsOn Rows.packAllRow.again) := by
 obtain ⟨places, hx⟩ := packAll_reads os enc
 exact law_laid (C := Tryd.checked) (s := Rows.packAllSpec) (tb := 4) (gs := gsT) (X := fun l => ∃ a : Ix, True ∧ ∃ l', (∃ b : KL Rng, QK b ∧ ∃ l'', (∃ c : KL Int, QB c ∧ ∃ l''', (l''' = []) ∧ l'' = encB c :: l''') ∧ l' = encR b :: l'') ∧ l = encIx a :: l') (by kernel_rfl) started (by kernel_rfl) Tryd.func6
  (witness_row_at (enc := enc) (C := Tryd.checked) false (packAll_world os) #[.agg #[.slice none 0 0], .slice none 0 0, .slice none 0 0] rfl (by kernel_rfl) (by kernel_rfl) (by kernel_rfl)
   (OpenSpec.preRow_of_cond 8 hx (by kernel_rfl) (fun k hk => by cases hk) (by kernel_rfl) (packAll_met os)))
  rfl (fun ds h => by
   match ds, h with
   | [_, _, _], _ => rfl) (by kernel_rfl)
  (fun t ht => by
   have ht : t ∈ ([24, 34, 62] : List Nat) := ht
   simp only [List.mem_cons, List.not_mem_nil, or_false] at ht
   rcases ht with rfl | rfl | rfl <;> exact ⟨by kernel_rfl, of_decide_eq_true (by kernel_rfl)⟩) rfl Tryd.underlying4 packAll_tabs
  ((args_cons arg_ix (args_cons arg_rngsQ (args_cons arg_bytes args_nil))))
  (fun avs ⟨a, ha, _, ⟨b, hb, _, ⟨c, hc, _, e0, e1⟩, e2⟩, e3⟩ => by
   subst e0 e1 e2 e3
   exact c_PackAll (Res.tab gsT) a b c () hb hc)
theorem packAll_said : Rows.PackAllSaid :=
 OpenClaim.holds_of_cond 6 Tryd.f6 rfl rfl rfl rfl rfl rfl rfl ⟨rfl, rfl, rfl, rfl, rfl⟩ rfl rfl rfl rfl rfl (by kernel_rfl) Tryd.func6 (by kernel_rfl)
  (of_decide_eq_true (by kernel_rfl)) (by unfold Func.isWrapper; first | (rw [if_pos (by decide +kernel)]; kernel_rfl) | (rw [if_neg (by decide +kernel)]; exact ⟨rfl, rfl⟩))
  (fun os started H enc _ F => by rw [OpenClaim.pre_eq_preRow]; exact packAll_lifted os started H enc F)
theorem packAll_plain (f : FuncId) (fn : Func) (hf : Tryd.pinned.checked.prog.funcNamed "swingle/swinglelaw26.PackAll" = some f) (hfn : Tryd.pinned.checked.prog.funcs[f]? = some fn) :
  true = Tryd.pinned.checked.prog.looks [] ∧ ∀ (j : Nat) t, fn.params[j]? = some t → Tryd.pinned.checked.prog.wantsStandIn t = false := by
 obtain rfl : f = 6 := Option.some.inj ((show Tryd.prog.funcNamed "swingle/swinglelaw26.PackAll" = some 6 by kernel_rfl).symm.trans hf) |>.symm
 obtain rfl : fn = Tryd.f6 := (Option.some.inj (Tryd.func6.symm.trans hfn)).symm
 refine ⟨by kernel_rfl, fun j t ht => ?_⟩
 have hm : t ∈ (Tryd.f6.params).toList := Array.mem_toList_iff.2 (Array.mem_of_getElem? ht)
 have hm : t ∈ ([24, 34, 62] : List Nat) := hm
 simp only [List.mem_cons, List.not_mem_nil, or_false] at hm
 rcases hm with rfl | rfl | rfl
 ·exact (show Tryd.prog.wantsStandIn 24 = false by kernel_rfl)
 ·exact (show Tryd.prog.wantsStandIn 34 = false by kernel_rfl)
 ·exact (show Tryd.prog.wantsStandIn 62 = false by kernel_rfl)
theorem packAll_holds : Rows.PackAllCardSaid :=
 Claim7.holds_tied_plain_at .later [] _ _ _ _ packAll_said (fun _ h => by cases h) (by kernel_rfl) (fun _ h => by cases h) packAll_row_tie rfl ⟨rfl, rfl⟩ (by kernel_rfl) rfl packAll_plain (by kernel_rfl)
#print axioms packAll_holds
end Go.Proofs.YthaoambmnjfdlaaDoor
