/- Part 3 of the proof: lemmas. -/
import Derived.Test.YthaoambmnjfdlaaDoorM2
namespace Go.Avm.Pack
open Go Go.Avm Go.Proofs
open Go.IntKind (i64 u64)
open Go.Avm.AV (int bool any fz fp sl ow ref fn ifc val agg tup)
open Go.Avm.AObj (cells dead)
open Go.Avm.Oc (ret)
set_option maxRecDepth 4000
theorem formed_rel {x : Ix} (h : formedB x = true) {i k : Nat} (hi : i < x.l.length) (hk : k < (x.l.getD i default).l.length) : relB x i ((x.l.getD i default).l.getD k default) = true := by
 unfold formedB at h
 simp only [Bool.and_eq_true] at h
 have h2 : ∀ j, j ∈ List.range x.l.length → relsB x j (x.l.getD j default).l = true := List.all_eq_true.1 h.2
 have h3 := h2 i (by simpa using hi)
 unfold relsB at h3
 simp only [Bool.and_eq_true] at h3
 exact List.all_eq_true.1 h3.2 _ (getD_mem _ _ hk)
theorem formed_le {x : Ix} (h : formedB x = true) : 1 ≤ x.l.length ∧ x.l.length ≤ 8 := by
 unfold formedB at h
 simp only [Bool.and_eq_true, decide_eq_true_eq] at h
 exact h.1
theorem ranged_pack {x : Ix} {r : Rng} (h : rangedB x r = true) : 0 ≤ r.pack ∧ r.pack < x.l.length := by
 unfold rangedB at h
 have := of_decide_eq_true h
 exact ⟨this.1, this.2.1⟩
theorem relOf_cases {x : Ix} (h : formedB x = true) {p : Nat → Int} (hp : inP x p) {i : Nat} (hi : i < x.l.length) : relOf x p i = noRel ∨ relB x i (relOf x p i) = true := by
 unfold relOf
 split
 ·exact .inl rfl
 ·rename_i hne
  have := hp i hi
  exact .inr (formed_rel h hi (by omega))
theorem formed_wfN {x : Ix} (h : formedB x = true) {p : Nat → Int} (hp : inP x p) : wfN x p := by
 intro i hi r hr
 rcases relOf_cases h hp hi with e | e
 ·rw [e] at hr; cases hr
 ·unfold relB at e
  simp only [Bool.and_eq_true] at e
  have := List.all_eq_true.1 e.1.2 r hr
  unfold otherB at this
  simp only [Bool.and_eq_true] at this
  exact ranged_pack this.1
theorem formed_wfB {x : Ix} (h : formedB x = true) {p : Nat → Int} (hp : inP x p) : wfB x p := by
 intro i hi r hr
 rcases relOf_cases h hp hi with e | e
 ·rw [e] at hr; cases hr
 ·unfold relB at e
  simp only [Bool.and_eq_true] at e
  have := List.all_eq_true.1 e.2 r hr
  unfold otherB at this
  simp only [Bool.and_eq_true] at this
  exact ranged_pack this.1
theorem relOf_beyond {x : Ix} {p : Nat → Int} {i : Nat} (hi : x.l.length ≤ i) : relOf x p i = noRel ∨ relOf x p i = default := by
 unfold relOf
 split
 ·exact .inl rfl
 ·right
  have : x.l.getD i default = default := by rw [List.getD_eq_getElem?_getD, List.getElem?_eq_none hi]; rfl
  rw [this]
  rfl
theorem formed_smallN {x : Ix} (h : formedB x = true) {p : Nat → Int} (hp : inP x p) : smallN x p := by
 intro i
 rcases Nat.lt_or_ge i x.l.length with hi | hi
 ·rcases relOf_cases h hp hi with e | e
  ·rw [e]; decide
  ·unfold relB at e
   simp only [Bool.and_eq_true, decide_eq_true_eq] at e
   omega
 ·rcases relOf_beyond (p := p) hi with e | e <;> rw [e] <;> decide
theorem formed_smallB {x : Ix} (h : formedB x = true) {p : Nat → Int} (hp : inP x p) : smallB' x p := by
 intro i
 rcases Nat.lt_or_ge i x.l.length with hi | hi
 ·rcases relOf_cases h hp hi with e | e
  ·rw [e]; decide
  ·unfold relB at e
   simp only [Bool.and_eq_true, decide_eq_true_eq] at e
   omega
 ·rcases relOf_beyond (p := p) hi with e | e <;> rw [e] <;> decide
theorem planned_inP {x : Ix} {l : List Int} (h : plannedB x l = true) : inP x (planOf l x.l.length) := by
 intro i hi
 have := (plannedB_iff.1 h).2 i hi
 unfold planOf
 rw [if_pos hi]
 exact this
def faultR (x : Ix) (gl : List Rng) (l : List Int) : Int × Int × Int :=
 if (checkB x gl && plannedB x l) = true then ((faultOf x gl (planOf l x.l.length)).1, (faultOf x gl (planOf l x.l.length)).2, 0) else (0, 0, 2)
theorem c_Fault (R : Res) (x : Ix) (gl : KL Rng) (l : KL Int) (hp : List AObj) (g : R.σ) (hs : small x) (hg : gl.l.length < 1000000) : Does Tryd.prog R 15 [encIx x, encR gl, encI l] hp g (.ret (.tup 3 (nth [.int .i64 (faultR x gl.l l.l).1, .int .i64 (faultR x gl.l l.l).2.1, .int .i64 (faultR x gl.l l.l).2.2]))) hp g := by
 refine does_any' (fun R g => ?_) (by exact ⟨⟨trivial, trivial⟩, ⟨trivial, ⟨trivial, trivial⟩⟩⟩) R hp g
 refine spec_of_wp (nt := 35) (rs := [.tmp 6, .tmp 7, .tmp 8]) (k0 := 0) (by kernel_rfl) (by kernel_rfl) (by kernel_rfl) rfl ?_
 cases hc : checkB x gl.l with
 | false =>
   have hf : faultR x gl.l l.l = (0, 0, 2) := by unfold faultR; rw [hc]; rfl
   rw [hf]
   refine vcQ [] (lkL [(0, [1, 2, 3]), (1, [1, 2, 3, 9]), (2, [2, 9, 19]), (3, [6, 7, 8]), (4, [9, 10, 11])]) (lkL [(1, [(4, ROrc.val (Orc.obj (nth [encPacks x, encR gl])))]), (2, [(2, ROrc.pcall (int i64 2))])]) (fun Q => 1 ≤ 1 ∧ 2 ≤ 2 ∧ (∀ (c : Nat), c < 2 → nth [encPacks x, encR gl] c = over (nth [fz Fz.nil 0 0 fun _ _ => any, fz Fz.nil 0 0 fun _ _ => any]) 0 2 (List.brecOn (motive := fun (x : List AV) => Nat → AV) [encPacks x, encR gl] nth._f) c) ∧ 1 ≤ 1 ∧ (∀ (hp : List AObj) (g : R.σ), true = true ∧ Does Tryd.prog R 47 [encIx x, encR gl] hp g (ret (int i64 2)) hp g) ∧ (true = true → Q AEx.ret (St.mk [(6, int i64 0), (7, int i64 0), (8, int i64 2)] [cells false 1 (nth [encPacks x]), cells false 2 (nth [encPacks x, encR gl])] g)) ∧ (true = false → False)) (fun _ => by kernel_rfl) ⟨(by omega), ⟨(by omega), ⟨(fun c hc => match c, hc with | 0, _ => (by kernel_rfl) | 1, _ => (by kernel_rfl) ), ⟨(by omega), ⟨(fun _ _ => ⟨rfl, (Go.Avm.Pack.c_Check_f _ _ _ _ _ (by omega) (by omega) (by omega))⟩), ⟨fun _ => ?_, fun h => (nomatch h)⟩⟩⟩⟩⟩⟩
   refine (retQ_le (retQ_drop _ _ rfl trivial ⟨⟨⟨trivial, trivial⟩, trivial⟩, trivial⟩ rfl) (Le.refl _))
 | true =>
   have hc' := hc
   unfold checkB at hc'
   simp only [Bool.and_eq_true] at hc'
   have hfo := hc'.1
   have h8 := (formed_le hfo).2
   have hgl : ∀ r ∈ gl.l, 0 ≤ r.pack ∧ r.pack < x.l.length := fun r hr => ranged_pack (List.all_eq_true.1 hc'.2.2 r hr)
   cases hpl : plannedB x l.l with
   | false =>
     have hf : faultR x gl.l l.l = (0, 0, 2) := by unfold faultR; rw [hc, hpl]; rfl
     rw [hf]
     refine vcQ [] (lkL [(0, [1, 2, 3]), (1, [1, 2, 3, 9]), (2, [2, 9, 19]), (3, [6, 7, 8]), (4, [9, 10, 11]), (5, [9, 10, 27]), (6, [6, 7, 8]), (7, [12])]) (lkL [(1, [(4, ROrc.val (Orc.obj (nth [encPacks x, encR gl])))]), (2, [(2, ROrc.pcall (int i64 0))]), (4, [(2, ROrc.pcall (tup 2 (nth [agg 8 fun (x : Nat) => any, AV.bool false]))), (7, ROrc.val (Orc.obj fun (x : Nat) => any))])]) (fun Q => (fun (u1 : AV) => (fun (u2 : List AV) => 1 ≤ 1 ∧ 2 ≤ 2 ∧ (∀ (c : Nat), c < 2 → nth u2 c = over (nth [fz Fz.nil 0 0 fun _ _ => any, fz Fz.nil 0 0 fun _ _ => any]) 0 2 (List.brecOn (motive := fun (x : List AV) => Nat → AV) u2 nth._f) c) ∧ 1 ≤ 1 ∧ (∀ (hp : List AObj) (g : R.σ), true = true ∧ Does Tryd.prog R 47 [encIx x, encR gl] hp g (ret u1) hp g) ∧ (false = true → Q AEx.ret (St.mk [(6, u1), (7, u1), (8, int i64 2)] [cells false 1 (nth [encPacks x]), cells false 2 (nth u2)] g)) ∧ (false = false → 2 ≤ 2 ∧ (∀ (hp : List AObj) (g : R.σ), true = true ∧ Does Tryd.prog R 48 [encMkt x gl, encI l] hp g (ret (tup 2 (nth [agg 8 fun (x : Nat) => any, AV.bool false]))) hp g) ∧ 8 ≤ 8 ∧ (∀ (c : Nat), c < 8 → any = over (nth [u1, u1, u1, u1, u1, u1, u1, u1]) 0 8 (fun (x : Nat) => any) c) ∧ (true = true → Q AEx.ret (St.mk [(6, u1), (7, u1), (8, int i64 2)] [cells false 1 (nth [encPacks x]), cells false 2 (nth u2), cells false 8 fun (x : Nat) => any] g)) ∧ (true = false → False))) ([encPacks x, encR gl])) (int i64 0)) (fun _ => by kernel_rfl) ⟨(by omega), ⟨(by omega), ⟨(fun c hc => match c, hc with | 0, _ => (by kernel_rfl) | 1, _ => (by kernel_rfl) ), ⟨(by omega), ⟨(fun _ _ => ⟨rfl, (Go.Avm.Pack.c_Check_t _ _ _ _ _ (by omega) (by omega) (by omega))⟩), ⟨fun h => (nomatch h), fun _ => ⟨(by omega), ⟨(fun _ _ => ⟨rfl, (Go.Avm.Pack.c_planned_f _ _ _ _ _ _ (by omega) (by omega) (by omega))⟩), ⟨(by omega), ⟨(fun c hc => match c, hc with | 0, _ => (by kernel_rfl) | 1, _ => (by kernel_rfl) | 2, _ => (by kernel_rfl) | 3, _ => (by kernel_rfl) | 4, _ => (by kernel_rfl) | 5, _ => (by kernel_rfl) | 6, _ => (by kernel_rfl) | 7, _ => (by kernel_rfl) ), ⟨fun _ => ?_, fun h => (nomatch h)⟩⟩⟩⟩⟩⟩⟩⟩⟩⟩⟩
     refine (retQ_le (retQ_drop _ _ rfl trivial ⟨⟨⟨trivial, trivial⟩, trivial⟩, trivial⟩ rfl) (Le.refl _))
   | true =>
     have hin := planned_inP hpl
     have hN := formed_wfN hfo hin
     have hB := formed_wfB hfo hin
     have hN' := formed_smallN hfo hin
     have hB' := formed_smallB hfo hin
     have hf : faultR x gl.l l.l = ((faultOf x gl.l (planOf l.l x.l.length)).1, (faultOf x gl.l (planOf l.l x.l.length)).2, 0) := by unfold faultR; rw [hc, hpl]; rfl
     rw [hf]
     refine vcQ [] (lkL [(0, [1, 2, 3]), (1, [1, 2, 3, 9]), (2, [2, 9, 19]), (3, [6, 7, 8]), (4, [9, 10, 11]), (5, [9, 10, 27]), (6, [6, 7, 8]), (7, [12]), (8, [6, 7, 8])]) (lkL [(1, [(4, ROrc.val (Orc.obj (nth [encPacks x, encR gl])))]), (2, [(2, ROrc.pcall (int i64 0))]), (4, [(2, ROrc.pcall (tup 2 (nth [encPlan (planOf l.l (x.l.length)), AV.bool true]))), (7, ROrc.val (Orc.obj fun (j : Nat) => int i64 (planOf l.l (x.l.length) j)))]), (7, [(2, ROrc.pcall (agg 2 (nth [int i64 (faultOf x gl.l (planOf l.l (x.l.length))).fst, int i64 (faultOf x gl.l (planOf l.l (x.l.length))).snd]))), (4, ROrc.val (Orc.obj (nth [int i64 (faultOf x gl.l (planOf l.l (x.l.length))).fst, int i64 (faultOf x gl.l (planOf l.l (x.l.length))).snd])))])]) (fun Q => (fun (u1 : Int × Int) => (fun (u2 : AV) => (fun (u3 : List AV) => (fun (u4 : AObj) => (fun (u5 : AObj) => (fun (u6 : AObj) => 1 ≤ 1 ∧ 2 ≤ 2 ∧ (∀ (c : Nat), c < 2 → nth [encPacks x, encR gl] c = over (nth [fz Fz.nil 0 0 fun _ _ => any, fz Fz.nil 0 0 fun _ _ => any]) 0 2 (List.brecOn (motive := fun (x : List AV) => Nat → AV) [encPacks x, encR gl] nth._f) c) ∧ 1 ≤ 1 ∧ (∀ (hp : List AObj) (g : R.σ), true = true ∧ Does Tryd.prog R 47 [encIx x, encR gl] hp g (ret u2) hp g) ∧ (false = true → Q AEx.ret (St.mk [(6, u2), (7, u2), (8, int i64 2)] [u6, u4] g)) ∧ (false = false → 2 ≤ 2 ∧ (∀ (hp : List AObj) (g : R.σ), true = true ∧ Does Tryd.prog R 48 [encMkt x gl, encI l] hp g (ret (tup 2 (nth [encPlan (planOf l.l (x.l.length)), AV.bool true]))) hp g) ∧ 8 ≤ 8 ∧ (∀ (c : Nat), c < 8 → int i64 (planOf l.l (x.l.length) c) = over (nth [u2, u2, u2, u2, u2, u2, u2, u2]) 0 8 (fun (j : Nat) => int i64 (planOf l.l (x.l.length) j)) c) ∧ (false = true → Q AEx.ret (St.mk [(6, u2), (7, u2), (8, int i64 2)] [u6, u4, u5] g)) ∧ (false = false → 2 ≤ 2 ∧ 8 ≤ 8 ∧ (∀ (hp : List AObj) (g : R.σ), true = true ∧ Does Tryd.prog R 49 [encMkt x gl, encPlan (planOf l.l (x.l.length))] hp g (ret (agg 2 (nth u3))) hp g) ∧ 2 ≤ 2 ∧ (∀ (c : Nat), c < 2 → nth u3 c = over (nth [u2, u2]) 0 2 (List.brecOn (motive := fun (x : List AV) => Nat → AV) u3 nth._f) c) ∧ Tables.follows Tryd.prog.toTables Departure.mixedOrders = true ∧ 1 ≤ 2 ∧ 2 ≤ 2 ∧ Q AEx.ret (St.mk [(6, int i64 u1.fst), (7, int i64 u1.snd), (8, u2)] [u6, u4, u5, cells false 2 (nth u3)] g)))) (cells false 1 (nth [encPacks x]))) (cells false 8 fun (j : Nat) => int i64 (planOf l.l (x.l.length) j))) (cells false 2 (nth [encPacks x, encR gl]))) ([int i64 u1.fst, int i64 u1.snd])) (int i64 0)) (faultOf x gl.l (planOf l.l (x.l.length)))) (fun _ => by kernel_rfl) ⟨(by omega), ⟨(by omega), ⟨(fun c hc => match c, hc with | 0, _ => (by kernel_rfl) | 1, _ => (by kernel_rfl) ), ⟨(by omega), ⟨(fun _ _ => ⟨rfl, (Go.Avm.Pack.c_Check_t _ _ _ _ _ (by omega) (by omega) (by omega))⟩), ⟨fun h => (nomatch h), fun _ => ⟨(by omega), ⟨(fun _ _ => ⟨rfl, (Go.Avm.Pack.c_planned_t _ _ _ _ _ _ (by omega) (by omega) (by omega))⟩), ⟨(by omega), ⟨(fun c hc => match c, hc with | 0, _ => (by kernel_rfl) | 1, _ => (by kernel_rfl) | 2, _ => (by kernel_rfl) | 3, _ => (by kernel_rfl) | 4, _ => (by kernel_rfl) | 5, _ => (by kernel_rfl) | 6, _ => (by kernel_rfl) | 7, _ => (by kernel_rfl) ), ⟨fun h => (nomatch h), fun _ => ⟨(by omega), ⟨(by omega), ⟨(fun _ _ => ⟨rfl, (Go.Avm.Pack.c_fault _ _ _ _ _ _ (by omega) (by omega) (by omega) (by omega) (by omega) (by omega) (by omega) (by omega))⟩), ⟨(by omega), ⟨(fun c hc => match c, hc with | 0, _ => (by kernel_rfl) | 1, _ => (by kernel_rfl) ), ⟨(by kernel_rfl), ⟨(by omega), ⟨(by omega), ?_⟩⟩⟩⟩⟩⟩⟩⟩⟩⟩⟩⟩⟩⟩⟩⟩⟩⟩⟩
     refine (retQ_le (retQ_drop _ _ rfl trivial ⟨⟨⟨trivial, trivial⟩, trivial⟩, trivial⟩ rfl) (Le.refl _))
end Go.Avm.Pack
namespace Go.Avm.Pack
open Go Go.Avm Go.Proofs
open Go.IntKind (i64 u64)
open Go.Avm.AV (int bool any fz fp sl ow ref fn ifc val agg tup)
open Go.Avm.AObj (cells dead)
open Go.Avm.Oc (ret)
set_option maxRecDepth 4000

abbrev ndf (x : Ix) (p : Nat → Int) (n : Nat) : Nat → Rng → Nat := fun s r => dfs x p n s r.pack.toNat
theorem room_zero {s i : Nat} (h : room s ≤ 0) (hi : i < 8) : s.testBit i = true := by
 cases e : s.testBit i with
 | true => rfl
 | false => have := room_set hi e; omega
theorem dfs_has {x : Ix} {p : Nat → Int} {n s i : Nat} (hr : room s ≤ n) (hi : i < 8) : (dfs x p n s i).testBit i = true := by
 cases n with
 | zero => exact room_zero hr hi
 | succ n =>
   unfold dfs
   split
   ·rename_i h; exact h
   ·refine foldl_keep (P := fun s => s.testBit i = true) (fun s hs a _ => dfs_grows x p n s _ i hs) ?_
    rw [testBit_set]; simp
theorem foldl_grows (x : Ix) (p : Nat → Int) (n : Nat) (l : List Rng) (s b : Nat) (h : s.testBit b = true) : (l.foldl (ndf x p n) s).testBit b = true :=
 foldl_keep (P := fun s => s.testBit b = true) (fun s hs a _ => dfs_grows x p n s _ b hs) h
theorem foldl_closed {x : Ix} {p : Nat → Int} {n : Nat} (h8 : x.l.length ≤ 8)
  (hd : ∀ (s i : Nat), room s ≤ n → i < x.l.length → ∀ j, (dfs x p n s i).testBit j = true → s.testBit j = true ∨ ∀ r ∈ (relOf x p j).needs.l, (dfs x p n s i).testBit r.pack.toNat = true) :
  ∀ (l : List Rng) (s : Nat), (∀ r ∈ l, 0 ≤ r.pack ∧ r.pack < x.l.length) → room s ≤ n →
    (∀ r ∈ l, (l.foldl (ndf x p n) s).testBit r.pack.toNat = true) ∧ ∀ j, (l.foldl (ndf x p n) s).testBit j = true → s.testBit j = true ∨ ∀ r ∈ (relOf x p j).needs.l, (l.foldl (ndf x p n) s).testBit r.pack.toNat = true
 | [], s, _, _ => ⟨fun r hr => (by cases hr), fun j hj => .inl hj⟩
 | a :: l, s, hl, hr => by
   have ha := hl a List.mem_cons_self
   have hr' : room (ndf x p n s a) ≤ n := Nat.le_trans (room_le (s := s) (fun b hb => dfs_grows x p n s _ b hb)) hr
   obtain ⟨h1, h2⟩ := foldl_closed h8 hd l (ndf x p n s a) (fun r hr => hl r (List.mem_cons_of_mem _ hr)) hr'
   rw [List.foldl_cons]
   refine ⟨fun r hr0 => ?_, fun j hj => ?_⟩
   ·rcases List.mem_cons.1 hr0 with e | e
    ·subst e
     exact foldl_grows x p n l _ _ (dfs_has hr (by omega))
    ·exact h1 r e
   ·rcases h2 j hj with e | e
    ·rcases hd s _ hr (by omega) j e with e | e
     ·exact .inl e
     ·exact .inr fun r hr0 => foldl_grows x p n l _ _ (e r hr0)
    ·exact .inr e
theorem dfs_closed {x : Ix} {p : Nat → Int} (h8 : x.l.length ≤ 8) (hw : wfN x p) : ∀ (n s i : Nat), room s ≤ n → i < x.l.length → ∀ j, (dfs x p n s i).testBit j = true → s.testBit j = true ∨ ∀ r ∈ (relOf x p j).needs.l, (dfs x p n s i).testBit r.pack.toNat = true
 | 0, _, _, _, _, _, h => .inl h
 | n + 1, s, i, hr, hi, j, h => by
   unfold dfs at h ⊢
   split at h
   ·exact .inl h
   ·rename_i ht
    have ht : s.testBit i = false := by cases e : s.testBit i with
     | false => rfl
     | true => exact absurd e ht
    have hroom := room_set (by omega) ht
    obtain ⟨h1, h2⟩ := foldl_closed h8 (dfs_closed h8 hw n) (relOf x p i).needs.l (s ||| 2 ^ i) (hw i hi) (by omega)
    rw [if_neg (by simp [ht])]
    rcases h2 j h with e | e
    ·rw [testBit_set] at e
     cases es : s.testBit j with
     | true => exact .inl rfl
     | false =>
       rw [es] at e
       have e : i = j := by simpa using e
       subst e
       exact .inr h1
    ·exact .inr e
theorem dfs_least {x : Ix} {p : Nat → Int} {T : Nat → Prop} (hT : ∀ i, T i → ∀ r ∈ (relOf x p i).needs.l, T r.pack.toNat) : ∀ (n s i : Nat), T i → (∀ b, s.testBit b = true → T b) → ∀ b, (dfs x p n s i).testBit b = true → T b
 | 0, _, _, _, hs => hs
 | n + 1, s, i, hi, hs => by
   unfold dfs
   split
   ·exact hs
   ·refine foldl_keep (P := fun s => ∀ b, s.testBit b = true → T b) (fun s hs r hr => dfs_least hT n s _ (hT i hi r hr) hs) (fun b hb => ?_)
    rw [testBit_set] at hb
    cases es : s.testBit b with
    | true => exact hs b es
    | false =>
      rw [es] at hb
      have e : i = b := by simpa using hb
      exact e ▸ hi
theorem room_eight (s : Nat) : room s ≤ 8 := Nat.le_trans (List.length_filter_le _ _) (by simp)
theorem needed_goals {x : Ix} {gl : List Rng} {p : Nat → Int} (h8 : x.l.length ≤ 8) (hw : wfN x p) (hgl : ∀ r ∈ gl, 0 ≤ r.pack ∧ r.pack < x.l.length) : ∀ r ∈ gl, (neededN x gl p).testBit r.pack.toNat = true :=
 (foldl_closed h8 (dfs_closed h8 hw 8) gl 0 hgl (room_eight 0)).1
theorem needed_closed {x : Ix} {gl : List Rng} {p : Nat → Int} (h8 : x.l.length ≤ 8) (hw : wfN x p) (hgl : ∀ r ∈ gl, 0 ≤ r.pack ∧ r.pack < x.l.length) (j : Nat) (h : (neededN x gl p).testBit j = true) : ∀ r ∈ (relOf x p j).needs.l, (neededN x gl p).testBit r.pack.toNat = true := by
 rcases (foldl_closed h8 (dfs_closed h8 hw 8) gl 0 hgl (room_eight 0)).2 j h with e | e
 ·simp at e
 ·exact e
theorem needed_least {x : Ix} {gl : List Rng} {p : Nat → Int} {T : Nat → Prop} (hg : ∀ r ∈ gl, T r.pack.toNat) (hT : ∀ i, T i → ∀ r ∈ (relOf x p i).needs.l, T r.pack.toNat) (b : Nat) (h : (neededN x gl p).testBit b = true) : T b :=
 foldl_keep (P := fun s => ∀ b, s.testBit b = true → T b) (fun s hs r hr => dfs_least hT 8 s _ (hg r hr) hs) (fun b hb => by simp at hb) b h
end Go.Avm.Pack
namespace Go.Avm.Pack
open Go Go.Avm Go.Proofs
open Go.IntKind (i64 u64)
open Go.Avm.AV (int bool any fz fp sl ow ref fn ifc val agg tup)
open Go.Avm.AObj (cells dead)
open Go.Avm.Oc (ret)
set_option maxRecDepth 4000
end Go.Avm.Pack
namespace Go.Avm.Pack
open Go Go.Avm Go.Proofs
open Go.IntKind (i64 u64)
open Go.Avm.AV (int bool any fz fp sl ow ref fn ifc val agg tup)
open Go.Avm.AObj (cells dead)
open Go.Avm.Oc (ret)
set_option maxRecDepth 4000
theorem fault_none {x : Ix} {gl : List Rng} {p : Nat → Int} (hG : fstN gl.length (fun j => !(metB p (gl.getD j default))) = none) (h4 : ∀ b, b < 3 → ∀ i, i < x.l.length → badB x gl p b i = false) : faultOf x gl p = (0, 0) := by
 unfold faultOf
 rw [look_none hG h4]
 rfl
theorem bad_neg {x : Ix} {gl : List Rng} {p : Nat → Int} {a i : Nat} (h : p i = -1) : badB x gl p a i = false := by
 unfold badB
 rw [h]
 rfl
theorem bad0 {x : Ix} {gl : List Rng} {p : Nat → Int} {i : Nat} (h : p i ≠ -1) : badB x gl p 0 i = !((relOf x p i).needs.l.all (metB p)) := by
 unfold badB
 rw [show (p i != -1) = true by simpa using h, if_pos rfl, Bool.true_and]
theorem bad1 {x : Ix} {gl : List Rng} {p : Nat → Int} {i : Nat} (h : p i ≠ -1) : badB x gl p 1 i = (relOf x p i).bars.l.any (metB p) := by
 unfold badB
 rw [show (p i != -1) = true by simpa using h, if_neg (by decide), if_pos rfl, Bool.true_and]
theorem bad2 {x : Ix} {gl : List Rng} {p : Nat → Int} {i : Nat} (h : p i ≠ -1) : badB x gl p 2 i = !((neededN x gl p).testBit i) := by
 unfold badB
 rw [show (p i != -1) = true by simpa using h, if_neg (by decide), if_neg (by decide), Bool.true_and]
end Go.Avm.Pack
namespace Go.Avm.Pack
open Go Go.Avm Go.Proofs
open Go.IntKind (i64 u64)
open Go.Avm.AV (int bool any fz fp sl ow ref fn ifc val agg tup)
open Go.Avm.AObj (cells dead)
open Go.Avm.Oc (ret)
set_option maxRecDepth 4000
def clsC (q : Nat → Clause) : Nat → AV := fun j => clC (q (j / 4)) (j % 4)
theorem below_clC {k : Nat} (r : Clause) : ∀ m, Below k (clC r m)
 | 0 => trivial
 | 1 => trivial
 | 2 => trivial
 | 3 => trivial
 | _ + 4 => trivial
theorem below_clsC {k : Nat} (q : Nat → Clause) (j : Nat) : Below k (clsC q j) := below_clC _ _
theorem clsC_append {q : Nat → Clause} {i k : Nat} {z f : Nat → AV} (hk : k < (i + 1) * 4) (hf : ∀ m, m < 4 → f m = clC (q i) m) : clsC q k = plainJ 4 i (fun a b => clsC q (a * 4 + b)) (fun a b => over z 0 4 f (0 + a * 4 + b)) k := by
 unfold plainJ
 by_cases h : k < i * 4
 ·rw [if_pos h]
  show _ = clsC q (k / 4 * 4 + k % 4)
  rw [show k / 4 * 4 + k % 4 = k by omega]
 ·rw [if_neg h]
  show _ = over z 0 4 f (0 + (k - i * 4) / 4 * 4 + (k - i * 4) % 4)
  rw [over_eq, show (k - i * 4) / 4 = 0 by omega, show (k - i * 4) % 4 = k - i * 4 by omega, if_pos (by omega)]
  show clC (q (k / 4)) (k % 4) = _
  rw [show k / 4 = i by omega, show k % 4 = k - i * 4 by omega, ← hf _ (by omega)]
  congr 1
  omega
def numQ (c : Clause) (i : Nat) : Clause := ⟨c.pack, c.rel, c.bar, i⟩
theorem numbered_all (R : Res) (l : KL Rng) (c : Clause) (g : R.σ) (hl : l.l.length < 1000000) :
  Does Tryd.prog R 89 [encR l, encCl c] [] g (.ret (.ow true 1 l.l.length 4)) [.cells false 4 (nth [.int .i64 c.pack, .int .i64 c.rel, .bool c.bar, .any]), .cells false (l.l.length * 4) (clsC (numQ c))] g := by
 refine spec_of_wp (nt := 20) (rs := [.tmp 4]) (k0 := 0) (by kernel_rfl) (by kernel_rfl) (by kernel_rfl) rfl ?_
 refine vcQ [] (lkL [(0, [0, 3]), (1, [0, 3, 5]), (2, [3, 5, 8, 9])]) (fun _ => []) (fun Q => Wp Tryd.prog R 20 0 Rd.top (bodyOf Tryd.prog 89) [1, 1, 0, 1, 0] (contQ Tryd.prog R 20 0 Rd.top (bodyOf Tryd.prog 89) Q [Kont.blk 0, Kont.seq [1, 1, 1]]) (St.mk [(3, ref 0 0), (5, fz Fz.nil 0 0 fun _ _ => any), (8, int i64 (l.l.length : Int)), (9, int i64 0)] [cells false 4 (nth [int i64 c.pack, int i64 c.rel, AV.bool c.bar, int i64 c.which])] g)) (fun _ => by kernel_rfl) (?_)
 refine (wp_loop (by kernel_rfl) (fun (i : Nat) => ⟨[(3, ref 0 0), (5, .ow true 1 i 4), (8, int i64 (l.l.length : Int)), (9, .int .i64 (i : Int))], [.cells false 4 (nth [.int .i64 c.pack, .int .i64 c.rel, .bool c.bar, .any]), .cells false (i * 4) (clsC (numQ c))], g⟩) (fun (i : Nat) => (i ≤ l.l.length)) (fun (i : Nat) => (l.l.length - i)) 0 (To.trans (to_ghost (fun _ => .any)) (to_le ⟨(Le.refl _), ⟨Le.nil_ow, ⟨(Le.refl _), ⟨(Le.of_eq (by kernel_rfl)), trivial⟩⟩⟩⟩ ⟨⟨rfl, Nat.le_refl _, fun j hj => match j, hj with | 0, _ => (Le.refl _) | 1, _ => (Le.refl _) | 2, _ => (Le.refl _) | 3, _ => (Le.any _) ⟩, ⟨⟨rfl, Nat.le_refl _, fun j hj => absurd hj (by omega)⟩, trivial⟩⟩ rfl)) ?_ (fun i hi => ?_))
 ·exact Nat.zero_le _
 ·refine vcQ [] (lkL [(3, [3, 5, 8, 9, 10]), (4, [3, 5, 6, 8, 9]), (5, [3, 5, 8, 9]), (6, [3, 5, 8, 9]), (7, [3, 5, 8, 9])]) (lkL [(5, [(2, ROrc.val (Orc.obj (nth [int i64 c.pack, int i64 c.rel, AV.bool c.bar, int i64 (i : Int)])))]), (6, [(3, ROrc.val (Orc.obj (clsC (numQ c))))])]) (fun Q => (decide ((i : Int) < (l.l.length : Int)) = true → 4 ≤ 4 ∧ (∀ (c_1 : Nat), c_1 < 4 → nth [int i64 c.pack, int i64 c.rel, AV.bool c.bar, int i64 (i : Int)] c_1 = over (nth [int i64 c.pack, int i64 c.rel, AV.bool c.bar, any]) 3 1 (fun (x : Nat) => int i64 (i : Int)) c_1) ∧ 4 ≤ 4 ∧ 0 < 4 ∧ (i + 1) * 32 ≤ maxRoom ∧ i + 1 ≤ maxRoom ∧ 4 ≤ 4 ∧ i * 4 ≤ i * 4 ∧ (∀ (c_1 : Nat), c_1 < (i + 1) * 4 → clsC (numQ c) c_1 = plainJ 4 i (fun (i j : Nat) => clsC (numQ c) (i * 4 + j)) (fun (i_1 j : Nat) => over (fun (j : Nat) => nth [int i64 0, int i64 0, AV.bool false, int i64 0] (j % 4)) 0 4 (List.brecOn (motive := fun (x : List AV) => Nat → AV) [int i64 c.pack, int i64 c.rel, AV.bool c.bar, int i64 (i : Int)] nth._f) (0 + i_1 * 4 + j)) c_1) ∧ (-9223372036854775808 ≤ (i : Int) + 1 ∧ (i : Int) + 1 ≤ 9223372036854775807) ∧ Q AEx.normal (St.mk [(3, ref 0 0), (5, ow true 3 (i + 1) 4), (8, int i64 (l.l.length : Int)), (9, int i64 ((i : Int) + 1))] [cells false 4 (nth [int i64 c.pack, int i64 c.rel, AV.bool c.bar, int i64 (i : Int)]), dead, cells false 4 (over (fun (j : Nat) => nth [int i64 0, int i64 0, AV.bool false, int i64 0] (j % 4)) 0 4 (List.brecOn (motive := fun (x : List AV) => Nat → AV) [int i64 c.pack, int i64 c.rel, AV.bool c.bar, int i64 (i : Int)] nth._f)), cells false ((i + 1) * 4) (clsC (numQ c))] g)) ∧ (decide ((i : Int) < (l.l.length : Int)) = false → Q (AEx.exit 0) (St.mk [(3, ref 0 0), (5, ow true 1 i 4), (8, int i64 (l.l.length : Int)), (9, int i64 (i : Int)), (10, AV.bool (decide ((i : Int) < (l.l.length : Int))))] [cells false 4 (nth [int i64 c.pack, int i64 c.rel, AV.bool c.bar, any]), cells false (i * 4) (clsC (numQ c))] g))) (fun _ => by kernel_rfl) ⟨fun c1 => have c1 : (i : Int) < (l.l.length : Int) := (of_decide_eq_true c1); ⟨(by omega), ⟨(fun c hc => match c, hc with | 0, _ => (by kernel_rfl) | 1, _ => (by kernel_rfl) | 2, _ => (by kernel_rfl) | 3, _ => (by kernel_rfl) ), ⟨(by omega), ⟨(by omega), ⟨?_, ⟨?_, ⟨(by omega), ⟨(by omega), ⟨?_, ⟨(by omega), ?_⟩⟩⟩⟩⟩⟩⟩⟩⟩⟩, fun c1 => have c1 : ¬(i : Int) < (l.l.length : Int) := (of_decide_eq_false c1); ?_⟩
  ·unfold maxRoom; omega
  ·unfold maxRoom; omega
  ·exact fun k hk => clsC_append (q := numQ c) hk (fun m hm => match m, hm with | 0, _ => rfl | 1, _ => rfl | 2, _ => rfl | 3, _ => rfl)
  ·refine (next_round (i + 1) (to_sel [0, 3] 4 rfl rfl rfl rfl rfl ⟨(Le.refl _), ⟨(Le.refl _), ⟨(Le.refl _), ⟨(Le.refl _), trivial⟩⟩⟩⟩ ⟨⟨rfl, Nat.le_refl _, fun j hj => match j, hj with | 0, _ => (Le.refl _) | 1, _ => (Le.refl _) | 2, _ => (Le.refl _) | 3, _ => (Le.any _) ⟩, ⟨⟨by first | rfl | (simp; done), by first | exact Nat.le_refl _ | (simp; omega), fun j hj => le_ren (by first | exact trivial | apply Go.Avm.Pack.below_clsC)⟩, trivial⟩⟩) ?_ ?_)
   ·omega
   ·omega
  ·have e : i = l.l.length := by omega
   rw [e]
   refine ⟨_, To.refl _, vcQ [] (lkL [(8, [4])]) (fun _ => []) (fun Q => Q AEx.ret (St.mk [(4, ow true 1 (l.l.length) 4)] [cells false 4 (nth [int i64 c.pack, int i64 c.rel, AV.bool c.bar, any]), cells false (l.l.length * 4) (clsC (numQ c))] g)) (fun _ => by kernel_rfl) (?_)⟩
   refine (retQ_le (retQ_same' _ _ rfl trivial rfl rfl rfl) (Le.refl _))
def clsL (l : List Clause) : Nat → AV := clsC (fun j => l.getD j default)
def nums (c : Clause) (n : Nat) : List Clause := (List.range n).map (numQ c)
theorem nums_getD {c : Clause} {n i : Nat} (h : i < n) : (nums c n).getD i default = numQ c i := by
 unfold nums
 simp [List.getD, h]
theorem c_numbered (R : Res) (l : KL Rng) (c : Clause) (g : R.σ) (hl : l.l.length < 1000000) :
  Does Tryd.prog R 89 [encR l, encCl c] [] g (.ret (.ow true 1 l.l.length 4)) [.dead, .cells false (l.l.length * 4) (clsL (nums c l.l.length))] g :=
 does_le (numbered_all R l c g hl) ⟨LeO.dead _, LeO.cells (fun j hj => by
  show clC (numQ c (j / 4)) (j % 4) = clC ((nums c l.l.length).getD (j / 4) default) (j % 4)
  rw [nums_getD (by omega)]), trivial⟩
theorem below_clsL {k : Nat} (l : List Clause) (j : Nat) : Below k (clsL l j) := below_clC _ _
end Go.Avm.Pack
namespace Go.Avm.Pack
open Go Go.Avm Go.Proofs
open Go.IntKind (i64 u64)
open Go.Avm.AV (int bool any fz fp sl ow ref fn ifc val agg tup)
open Go.Avm.AObj (cells dead)
open Go.Avm.Oc (ret)
set_option maxRecDepth 4000
def relCl (i k : Nat) (r : Rel) : List Clause := nums ⟨i, k, false, 0⟩ r.needs.l.length ++ nums ⟨i, k, true, 0⟩ r.bars.l.length
def preL (i : Nat) (l : List Rel) (k : Nat) : List Clause := (List.range k).flatMap fun k => relCl i k (l.getD k default)
def preP (x : Ix) (m : Nat) (i : Nat) : List Clause := nums ⟨-1, 0, false, 0⟩ m ++ (List.range i).flatMap fun i => preL i (x.l.getD i default).l (x.l.getD i default).l.length
def preR (x : Ix) (m : Nat) (i k : Nat) : List Clause := preP x m i ++ preL i (x.l.getD i default).l k
def clausesOf (x : Ix) (gl : List Rng) : List Clause := preP x gl.length x.l.length
theorem preP_zero (x : Ix) (m : Nat) : preP x m 0 = nums ⟨-1, 0, false, 0⟩ m := by simp [preP]
theorem preR_zero (x : Ix) (m i : Nat) : preR x m i 0 = preP x m i := by simp [preR, preL]
theorem preL_succ (i : Nat) (l : List Rel) (k : Nat) : preL i l (k + 1) = preL i l k ++ relCl i k (l.getD k default) := by
 unfold preL
 rw [List.range_succ, List.flatMap_append]
 simp
theorem preR_succ (x : Ix) (m i k : Nat) : preR x m i (k + 1) = preR x m i k ++ relCl i k ((x.l.getD i default).l.getD k default) := by
 unfold preR
 rw [preL_succ, List.append_assoc]
theorem preP_succ (x : Ix) (m i : Nat) : preP x m (i + 1) = preR x m i (x.l.getD i default).l.length := by
 unfold preR preP
 rw [List.range_succ, List.flatMap_append]
 simp
theorem nums_len (c : Clause) (n : Nat) : (nums c n).length = n := by simp [nums]
theorem relCl_len (i k : Nat) (r : Rel) : (relCl i k r).length = r.needs.l.length + r.bars.l.length := by simp [relCl, nums_len]
theorem preL_len {x : Ix} (h : formedB x = true) {i : Nat} (hi : i < x.l.length) : ∀ k, k ≤ (x.l.getD i default).l.length → (preL i (x.l.getD i default).l k).length ≤ 8 * k
 | 0, _ => by simp [preL]
 | k + 1, hk => by
   have h1 := preL_len h hi k (by omega)
   have h2 := formed_rel h hi (show k < _ by omega)
   unfold relB at h2
   simp only [Bool.and_eq_true, decide_eq_true_eq] at h2
   rw [preL_succ, List.length_append, relCl_len]
   omega
theorem formed_five {x : Ix} (h : formedB x = true) {i : Nat} (hi : i < x.l.length) : (x.l.getD i default).l.length ≤ 5 := by
 unfold formedB at h
 simp only [Bool.and_eq_true] at h
 have h2 : ∀ j, j ∈ List.range x.l.length → relsB x j (x.l.getD j default).l = true := List.all_eq_true.1 h.2
 have h3 := h2 i (by simpa using hi)
 unfold relsB at h3
 simp only [Bool.and_eq_true, decide_eq_true_eq] at h3
 exact h3.1
theorem preP_len {x : Ix} (h : formedB x = true) {m : Nat} : ∀ i, i ≤ x.l.length → (preP x m i).length ≤ m + 40 * i
 | 0, _ => by rw [preP_zero, nums_len]; omega
 | i + 1, hi => by
   have h1 := preP_len h (m := m) i (by omega)
   have h2 := preL_len h (show i < _ by omega) _ (Nat.le_refl _)
   have h3 := formed_five h (show i < _ by omega)
   rw [preP_succ]
   unfold preR
   rw [List.length_append]
   omega
theorem preR_len {x : Ix} (h : formedB x = true) {m i k : Nat} (hi : i < x.l.length) (hk : k ≤ (x.l.getD i default).l.length) : (preR x m i k).length ≤ m + 40 * 8 := by
 have h1 := preP_len h (m := m) i (by omega)
 have h2 := preL_len h hi k hk
 have h3 := formed_five h hi
 have h4 := (formed_le h).2
 unfold preR
 rw [List.length_append]
 omega
theorem clsL_append {a b : List Clause} {k : Nat} : clsL (a ++ b) k = plainJ 4 a.length (fun i j => clsL a (i * 4 + j)) (fun i j => clsL b (i * 4 + j)) k := by
 unfold plainJ
 by_cases h : k < a.length * 4
 ·rw [if_pos h]
  show clC ((a ++ b).getD (k / 4) default) (k % 4) = clC (a.getD ((k / 4 * 4 + k % 4) / 4) default) ((k / 4 * 4 + k % 4) % 4)
  rw [show k / 4 * 4 + k % 4 = k by omega, List.getD_eq_getElem?_getD, List.getD_eq_getElem?_getD, List.getElem?_append_left (by omega)]
 ·rw [if_neg h]
  show clC ((a ++ b).getD (k / 4) default) (k % 4) = clC (b.getD (((k - a.length * 4) / 4 * 4 + (k - a.length * 4) % 4) / 4) default) (((k - a.length * 4) / 4 * 4 + (k - a.length * 4) % 4) % 4)
  rw [show (k - a.length * 4) / 4 * 4 + (k - a.length * 4) % 4 = k - a.length * 4 by omega, List.getD_eq_getElem?_getD, List.getD_eq_getElem?_getD, List.getElem?_append_right (by omega), show k / 4 - a.length = (k - a.length * 4) / 4 by omega, show (k - a.length * 4) % 4 = k % 4 by omega]
theorem clauses_all (R : Res) (x : Ix) (gl : KL Rng) (g : R.σ) (hs : small x) (h : formedB x = true) (hg : gl.l.length ≤ 4) :
  Does Tryd.prog R 53 [encMkt x gl] [] g (.ret (.ow true 2 (clausesOf x gl.l).length 4)) [.cells false 2 (nth [encPacks x, encR gl]), .dead, .cells false ((clausesOf x gl.l).length * 4) (clsL (clausesOf x gl.l))] g := by
 have h8 := (formed_le h).2
 refine spec_of_wp (nt := 47) (rs := [.tmp 2]) (k0 := 0) (by kernel_rfl) (by kernel_rfl) (by kernel_rfl) rfl ?_
 refine vcQ [] (lkL [(0, [1]), (1, [1, 3]), (2, [3, 14, 15, 16])]) (lkL [(1, [(3, ROrc.call (ow true 2 (gl.l.length) 4) [cells false 2 (nth [encPacks x, encR gl]), dead, cells false (gl.l.length * 4) (clsL (nums (Clause.mk (-1) 0 false 0) (gl.l.length)))] g)])]) (fun Q => (fun (u1 : List AObj) => 2 ≤ 2 ∧ (true = true ∧ Does Tryd.prog R 89 [encR gl, agg 4 (nth [int i64 (-1), int i64 0, AV.bool false, int i64 0])] [cells false 2 (nth [encPacks x, encR gl])] g (ret (ow true 2 (gl.l.length) 4)) u1 g) ∧ 1 ≤ 2 ∧ Wp Tryd.prog R 47 0 Rd.top (bodyOf Tryd.prog 53) [1, 1, 0, 1, 0] (contQ Tryd.prog R 47 0 Rd.top (bodyOf Tryd.prog 53) Q [Kont.blk 0, Kont.seq [1, 1, 1]]) (St.mk [(3, ow true 2 (gl.l.length) 4), (14, encPacks x), (15, int i64 (x.l.length : Int)), (16, int i64 0)] u1 g)) ([cells false 2 (nth [encPacks x, encR gl]), dead, cells false (gl.l.length * 4) (clsL (nums (Clause.mk (-1) 0 false 0) (gl.l.length)))])) (fun _ => by kernel_rfl) ⟨(by omega), ⟨⟨rfl, (does_sub' [] 1 (fun R g => Go.Avm.Pack.c_numbered R (gl) (Clause.mk (-1) 0 false 0) g (by omega)) rfl rfl rfl (by exact trivial) (by exact trivial) (by exact ⟨le_ren (by exact trivial), ⟨le_ren (by exact ⟨⟨⟨⟨trivial, trivial⟩, trivial⟩, trivial⟩, trivial⟩), trivial⟩⟩) (by exact (Le.refl _)) (by exact ⟨LeO.rflc, ⟨trivial, ⟨⟨rfl, Nat.le_refl _, fun j hj => le_unren (by first | exact trivial | apply Go.Avm.Pack.below_clsL)⟩, trivial⟩⟩⟩))⟩, ⟨(by omega), ?_⟩⟩⟩
 refine (wp_loop (by kernel_rfl) (fun (i : Nat) => ⟨[(3, .ow true 2 (preP x gl.l.length i).length 4), (14, encPacks x), (15, int i64 (x.l.length : Int)), (16, .int .i64 (i : Int))], [.cells false 2 (nth [encPacks x, encR gl]), .dead, .cells false ((preP x gl.l.length i).length * 4) (clsL (preP x gl.l.length i))], g⟩) (fun (i : Nat) => (i ≤ x.l.length)) (fun (i : Nat) => (x.l.length - i)) 0 (to_le ⟨(Le.of_eq ?_), ⟨(Le.refl _), ⟨(Le.refl _), ⟨(Le.of_eq (by kernel_rfl)), trivial⟩⟩⟩⟩ ⟨LeO.rflc, ⟨(LeO.dead _), ⟨?_, trivial⟩⟩⟩ rfl) ?_ (fun i hi => ?_))
 ·rw [preP_zero, nums_len]; rfl
 ·rw [preP_zero, nums_len]; exact LeO.rflc
 ·exact Nat.zero_le _
 ·have hs2 := hs.2 i
  refine vcQ [] (lkL [(3, [3, 14, 15, 16, 17]), (4, [3, 4, 5, 14, 15, 16]), (5, [3, 4, 14, 15, 16, 21, 22, 23])]) (fun _ => []) (fun Q => (fun (u1 : Int) => (fun (u2 : List AObj) => (fun (u3 : Int) => (fun (u4 : AV) => (decide (u3 < u1) = true → (0 ≤ u3 ∧ u3 < u1) ∧ 1 ≤ 1 ∧ Wp Tryd.prog R 47 0 Rd.top (bodyOf Tryd.prog 53) [1, 1, 0, 1, 0, 0, 1, 1, 0, 0, 1, 1, 0] (contQ Tryd.prog R 47 0 Rd.top (bodyOf Tryd.prog 53) Q [Kont.blk 2, Kont.blk 1, Kont.seq [1, 1, 0, 1, 0, 0, 1, 1, 1]]) (St.mk [(3, u4), (4, int i64 u3), (14, encPacks x), (15, int i64 u1), (16, int i64 u3), (21, encRels (x.l.getD i default)), (22, int i64 (↑((x.l.getD i default).l.length) : Int)), (23, int i64 0)] u2 g)) ∧ (decide (u3 < u1) = false → Q (AEx.exit 0) (St.mk [(3, u4), (14, encPacks x), (15, int i64 u1), (16, int i64 u3), (17, AV.bool (decide (u3 < u1)))] u2 g))) (ow true 2 ((preP x (gl.l.length) i).length) 4)) ((i : Int))) ([cells false 2 (nth [encPacks x, encR gl]), dead, cells false ((preP x (gl.l.length) i).length * 4) (clsL (preP x (gl.l.length) i))])) ((x.l.length : Int))) (fun _ => by kernel_rfl) ⟨fun c1 => have c1 : (i : Int) < (x.l.length : Int) := (of_decide_eq_true c1); ⟨(by omega), ⟨(by omega), ?_⟩⟩, fun c1 => have c1 : ¬(i : Int) < (x.l.length : Int) := (of_decide_eq_false c1); ?_⟩
  ·have hi' : i < x.l.length := by omega
   refine (wp_loop (by kernel_rfl) (fun (k : Nat) => ⟨[(3, .ow true 2 (preR x gl.l.length i k).length 4), (4, int i64 (i : Int)), (14, encPacks x), (15, int i64 (x.l.length : Int)), (16, int i64 (i : Int)), (21, encRels (x.l.getD i default)), (22, int i64 (↑((x.l.getD i default).l.length) : Int)), (23, .int .i64 (k : Int))], [.cells false 2 (nth [encPacks x, encR gl]), .dead, .cells false ((preR x gl.l.length i k).length * 4) (clsL (preR x gl.l.length i k))], g⟩) (fun (k : Nat) => (k ≤ (x.l.getD i default).l.length)) (fun (k : Nat) => ((x.l.getD i default).l.length - k)) 0 (to_le ⟨(Le.of_eq ?_), ⟨(Le.refl _), ⟨(Le.refl _), ⟨(Le.refl _), ⟨(Le.refl _), ⟨(Le.refl _), ⟨(Le.refl _), ⟨(Le.of_eq (by kernel_rfl)), trivial⟩⟩⟩⟩⟩⟩⟩⟩ ⟨LeO.rflc, ⟨(LeO.dead _), ⟨?_, trivial⟩⟩⟩ rfl) ?_ (fun k hi => ?_))
   ·rw [preR_zero]; rfl
   ·rw [preR_zero]; exact LeO.rflc
   ·exact Nat.zero_le _
   ·have hlen := preR_len h (m := gl.l.length) hi' hi
    have hb : k < (x.l.getD i default).l.length → ((x.l.getD i default).l.getD k default).needs.l.length ≤ 4 ∧ ((x.l.getD i default).l.getD k default).bars.l.length ≤ 4 := fun hk => by
     have h2 := formed_rel h hi' hk
     unfold relB at h2
     simp only [Bool.and_eq_true, decide_eq_true_eq] at h2
     omega
    refine vcQ [] (lkL [(6, [3, 4, 14, 15, 16, 21, 22, 23, 24]), (7, [3, 4, 6, 7, 14, 15, 16, 21, 22, 23]), (8, [3, 4, 6, 7, 14, 15, 16, 21, 22, 23]), (9, [3, 4, 14, 15, 16, 21, 22, 23]), (10, [3, 4, 14, 15, 16, 21, 22, 23])]) (lkL [(7, [(5, ROrc.val (Orc.obj (nth [encR ((x.l.getD i default).l.getD k default).needs, encR ((x.l.getD i default).l.getD k default).bars])))]), (8, [(6, ROrc.call (ow true 5 (((x.l.getD i default).l.getD k default).needs.l.length) 4) [cells false 2 (nth [encPacks x, encR gl]), dead, cells false ((preR x (gl.l.length) i k).length * 4) (clsL (preR x (gl.l.length) i k)), cells false 2 (nth [encR ((x.l.getD i default).l.getD k default).needs, encR ((x.l.getD i default).l.getD k default).bars]), dead, cells false (((x.l.getD i default).l.getD k default).needs.l.length * 4) (clsL (nums (Clause.mk (↑i) (↑k) false 0) (((x.l.getD i default).l.getD k default).needs.l.length)))] g), (7, ROrc.val (Orc.obj (clsL (preR x (gl.l.length) i k ++ nums (Clause.mk (i : Int) (k : Int) false 0) (((x.l.getD i default).l.getD k default).needs.l.length)))))]), (9, [(6, ROrc.call (ow true 8 (((x.l.getD i default).l.getD k default).bars.l.length) 4) [cells false 2 (nth [encPacks x, encR gl]), dead, dead, cells false 2 (nth [encR ((x.l.getD i default).l.getD k default).needs, encR ((x.l.getD i default).l.getD k default).bars]), dead, cells false (((x.l.getD i default).l.getD k default).needs.l.length * 4) (clsL (nums (Clause.mk (↑i) (↑k) false 0) (((x.l.getD i default).l.getD k default).needs.l.length))), cells false (((preR x (gl.l.length) i k).length + ((x.l.getD i default).l.getD k default).needs.l.length) * 4) (clsL (preR x (gl.l.length) i k ++ nums (Clause.mk (i : Int) (k : Int) false 0) (((x.l.getD i default).l.getD k default).needs.l.length))), dead, cells false (((x.l.getD i default).l.getD k default).bars.l.length * 4) (clsL (nums (Clause.mk (↑i) (↑k) true 0) (((x.l.getD i default).l.getD k default).bars.l.length)))] g), (7, ROrc.val (Orc.obj (clsL (preR x (gl.l.length) i k ++ nums (Clause.mk (i : Int) (k : Int) false 0) (((x.l.getD i default).l.getD k default).needs.l.length) ++ nums (Clause.mk (i : Int) (k : Int) true 0) (((x.l.getD i default).l.getD k default).bars.l.length)))))])]) (fun Q => (fun (u1 : Rel) => (fun (u2 : Nat) => (fun (u3 : List Clause) => (fun (u4 : Int) => (fun (u5 : AObj) => (fun (u6 : Nat) => (fun (u7 : List Clause) => (fun (u8 : AObj) => (fun (u9 : AObj) => (fun (u10 : Int) => (fun (u11 : AV) => (fun (u12 : AObj) => (fun (u13 : List Clause) => (fun (u14 : Nat) => (decide (u10 < u4) = true → (0 ≤ u10 ∧ u10 < u4) ∧ 2 ≤ 2 ∧ 2 ≤ 2 ∧ (∀ (c : Nat), c < 2 → nth [encR u1.needs, encR u1.bars] c = over (nth [fz Fz.nil 0 0 fun (x x_2 : Nat) => any, fz Fz.nil 0 0 fun (x x_2 : Nat) => any]) 0 2 (List.brecOn (motive := fun (x : List AV) => Nat → AV) [encR u1.needs, encR u1.bars] nth._f) c) ∧ 1 ≤ 2 ∧ (true = true ∧ Does Tryd.prog R 89 [encR u1.needs, agg 4 (nth [u11, int i64 u10, AV.bool false, int i64 0])] [u8, dead, u12, u9] g (ret (ow true 5 u14 4)) [u8, dead, u12, u9, dead, u5] g) ∧ 0 < 4 ∧ u2 * 32 ≤ maxRoom ∧ u2 ≤ maxRoom ∧ u14 * 4 ≤ u14 * 4 ∧ u7.length * 4 ≤ u7.length * 4 ∧ (∀ (c : Nat), c < u2 * 4 → clsL u3 c = plainJ 4 (u7.length) (fun (i j : Nat) => clsL u7 (i * 4 + j)) (fun (i_1 j : Nat) => clsL (nums (Clause.mk (↑i) (↑k) false 0) u14) (i_1 * 4 + j)) c) ∧ 2 ≤ 2 ∧ (true = true ∧ Does Tryd.prog R 89 [encR u1.bars, agg 4 (nth [u11, int i64 u10, AV.bool true, int i64 0])] [u8, dead, dead, u9, dead, u5, cells false (u2 * 4) (clsL u3)] g (ret (ow true 8 u6 4)) [u8, dead, dead, u9, dead, u5, cells false (u2 * 4) (clsL u3), dead, cells false (u6 * 4) (clsL u13)] g) ∧ 0 < 4 ∧ (u2 + u6) * 32 ≤ maxRoom ∧ u2 + u6 ≤ maxRoom ∧ u6 * 4 ≤ u6 * 4 ∧ u2 * 4 ≤ u2 * 4 ∧ (∀ (c : Nat), c < (u2 + u6) * 4 → clsL (u3 ++ nums (Clause.mk (i : Int) u10 true 0) u6) c = plainJ 4 u2 (fun (i j : Nat) => clsL u3 (i * 4 + j)) (fun (i j : Nat) => clsL u13 (i * 4 + j)) c) ∧ (-9223372036854775808 ≤ u10 + 1 ∧ u10 + 1 ≤ 9223372036854775807) ∧ Q AEx.normal (St.mk [(3, ow true 9 (u2 + u6) 4), (4, u11), (14, encPacks x), (15, int i64 (x.l.length : Int)), (16, u11), (21, encRels (x.l.getD i default)), (22, int i64 u4), (23, int i64 (u10 + 1))] [u8, dead, dead, u9, dead, u5, dead, dead, cells false (u6 * 4) (clsL u13), cells false ((u2 + u6) * 4) (clsL (u3 ++ nums (Clause.mk (i : Int) u10 true 0) u6))] g)) ∧ (decide (u10 < u4) = false → Q (AEx.exit 2) (St.mk [(3, ow true 2 (u7.length) 4), (4, u11), (14, encPacks x), (15, int i64 (x.l.length : Int)), (16, u11), (21, encRels (x.l.getD i default)), (22, int i64 u4), (23, int i64 u10), (24, AV.bool (decide (u10 < u4)))] [u8, dead, u12] g))) (u1.needs.l.length)) (nums (Clause.mk (↑i) (↑k) true 0) u6)) (cells false (u7.length * 4) (clsL u7))) (int i64 (i : Int))) ((k : Int))) (cells false 2 (nth [encR u1.needs, encR u1.bars]))) (cells false 2 (nth [encPacks x, encR gl]))) (preR x (gl.l.length) i k)) (u1.bars.l.length)) (cells false (u1.needs.l.length * 4) (clsL (nums (Clause.mk (↑i) (↑k) false 0) (u1.needs.l.length))))) ((↑((x.l.getD i default).l.length) : Int))) (preR x (gl.l.length) i k ++ nums (Clause.mk (i : Int) (k : Int) false 0) (u1.needs.l.length))) ((preR x (gl.l.length) i k).length + u1.needs.l.length)) ((x.l.getD i default).l.getD k default)) (fun _ => by kernel_rfl) ⟨fun c1 => have c1 : (k : Int) < (↑((x.l.getD i default).l.length) : Int) := (of_decide_eq_true c1); ⟨(by omega), ⟨(by omega), ⟨(by omega), ⟨(fun c hc => match c, hc with | 0, _ => (by kernel_rfl) | 1, _ => (by kernel_rfl) ), ⟨(by omega), ⟨⟨rfl, (does_sub' [] 4 (fun R g => Go.Avm.Pack.c_numbered R (((x.l.getD i default).l.getD k default).needs) (Clause.mk (↑i) (↑k) false 0) g (by simp at * <;> omega)) rfl rfl rfl (by exact trivial) (by exact trivial) (by exact ⟨le_ren (by exact trivial), ⟨le_ren (by exact ⟨⟨⟨⟨trivial, trivial⟩, trivial⟩, trivial⟩, trivial⟩), trivial⟩⟩) (by exact (Le.refl _)) (by exact ⟨LeO.rflc, ⟨trivial, ⟨LeO.rflc, ⟨LeO.rflc, ⟨trivial, ⟨⟨rfl, Nat.le_refl _, fun j hj => le_unren (by first | exact trivial | apply Go.Avm.Pack.below_clsL)⟩, trivial⟩⟩⟩⟩⟩⟩))⟩, ⟨(by omega), ⟨?_, ⟨?_, ⟨(by omega), ⟨(by omega), ⟨?_, ⟨(by omega), ⟨⟨rfl, (does_sub' [] 7 (fun R g => Go.Avm.Pack.c_numbered R (((x.l.getD i default).l.getD k default).bars) (Clause.mk (↑i) (↑k) true 0) g (by simp at * <;> omega)) rfl rfl rfl (by exact trivial) (by exact trivial) (by exact ⟨le_ren (by exact trivial), ⟨le_ren (by exact ⟨⟨⟨⟨trivial, trivial⟩, trivial⟩, trivial⟩, trivial⟩), trivial⟩⟩) (by exact (Le.refl _)) (by exact ⟨LeO.rflc, ⟨trivial, ⟨trivial, ⟨LeO.rflc, ⟨trivial, ⟨LeO.rflc, ⟨LeO.rflc, ⟨trivial, ⟨⟨rfl, Nat.le_refl _, fun j hj => le_unren (by first | exact trivial | apply Go.Avm.Pack.below_clsL)⟩, trivial⟩⟩⟩⟩⟩⟩⟩⟩⟩))⟩, ⟨(by omega), ⟨?_, ⟨?_, ⟨(by omega), ⟨(by omega), ⟨?_, ⟨(by omega), ?_⟩⟩⟩⟩⟩⟩⟩⟩⟩⟩⟩⟩⟩⟩⟩⟩⟩⟩⟩⟩⟩, fun c1 => have c1 : ¬(k : Int) < (↑((x.l.getD i default).l.length) : Int) := (of_decide_eq_false c1); ?_⟩
    ·unfold maxRoom; omega
    ·unfold maxRoom; omega
    ·intro c hc
     rw [clsL_append]
    ·unfold maxRoom; omega
    ·unfold maxRoom; omega
    ·intro c hc
     rw [clsL_append, List.length_append, nums_len]
    ·have e2 : (preR x gl.l.length i k).length + ((x.l.getD i default).l.getD k default).needs.l.length + ((x.l.getD i default).l.getD k default).bars.l.length = (preR x gl.l.length i (k + 1)).length := by
      rw [preR_succ, List.length_append, relCl_len]
      omega
     have e3 : (preR x gl.l.length i k ++ nums ⟨i, k, false, 0⟩ ((x.l.getD i default).l.getD k default).needs.l.length) ++ nums ⟨i, k, true, 0⟩ ((x.l.getD i default).l.getD k default).bars.l.length = preR x gl.l.length i (k + 1) := by
      rw [preR_succ]
      unfold relCl
      rw [List.append_assoc]
     rw [e2, e3]
     refine (next_round (k + 1) (to_sel [0, 1, 9] 10 rfl rfl rfl rfl rfl ⟨(Le.refl _), ⟨(Le.refl _), ⟨(Le.refl _), ⟨(Le.refl _), ⟨(Le.refl _), ⟨(Le.refl _), ⟨(Le.refl _), ⟨(Le.refl _), trivial⟩⟩⟩⟩⟩⟩⟩⟩ ⟨⟨rfl, Nat.le_refl _, fun j hj => match j, hj with | 0, _ => (Le.refl _) | 1, _ => (Le.refl _) ⟩, ⟨trivial, ⟨⟨by first | rfl | (simp; done), by first | exact Nat.le_refl _ | (simp; done) | (simp; omega), fun j hj => le_ren (by first | exact trivial | apply Go.Avm.Pack.below_clsL)⟩, trivial⟩⟩⟩) ?_ ?_)
     ·omega
     ·omega
    ·have hk : k = (x.l.getD i default).l.length := by omega
     refine ⟨_, To.refl _, vcQ [] (lkL [(11, [3, 14, 15, 16])]) (fun _ => []) (fun Q => (-9223372036854775808 ≤ (i : Int) + 1 ∧ (i : Int) + 1 ≤ 9223372036854775807) ∧ Q AEx.normal (St.mk [(3, ow true 2 ((preR x (gl.l.length) i k).length) 4), (14, encPacks x), (15, int i64 (x.l.length : Int)), (16, int i64 ((i : Int) + 1))] [cells false 2 (nth [encPacks x, encR gl]), dead, cells false ((preR x (gl.l.length) i k).length * 4) (clsL (preR x (gl.l.length) i k))] g)) (fun _ => by kernel_rfl) ⟨(by omega), ?_⟩⟩
     refine (next_round (i + 1) (to_le ⟨(Le.of_eq ?_), ⟨(Le.refl _), ⟨(Le.refl _), ⟨(Le.of_eq (by kernel_rfl)), trivial⟩⟩⟩⟩ ⟨LeO.rflc, ⟨(LeO.dead _), ⟨?_, trivial⟩⟩⟩ rfl) ?_ ?_)
     ·rw [preP_succ, ← hk]; rfl
     ·rw [preP_succ, ← hk]; exact LeO.rflc
     ·omega
     ·omega
  ·have e : i = x.l.length := by omega
   rw [e]
   refine ⟨_, To.refl _, vcQ [] (lkL [(12, [2])]) (fun _ => []) (fun Q => Q AEx.ret (St.mk [(2, ow true 2 ((preP x (gl.l.length) (x.l.length)).length) 4)] [cells false 2 (nth [encPacks x, encR gl]), dead, cells false ((preP x (gl.l.length) (x.l.length)).length * 4) (clsL (preP x (gl.l.length) (x.l.length)))] g)) (fun _ => by kernel_rfl) (?_)⟩
   refine (retQ_le (retQ_take' 3 _ _ rfl trivial (by omega) (show 3 ≤ 3 by omega) ⟨(fun j hj => match j, hj with | 0, _ => trivial | 1, _ => trivial ), ⟨(fun _ _ => (by first | exact trivial | apply Go.Avm.Pack.below_clsL)), trivial⟩⟩ (by kernel_rfl) rfl rfl) (Le.of_eq (by kernel_rfl)))
theorem c_clauses (R : Res) (x : Ix) (gl : KL Rng) (g : R.σ) (hs : small x) (h : formedB x = true) (hg : gl.l.length ≤ 4) :
  Does Tryd.prog R 53 [encMkt x gl] [] g (.ret (.ow true 2 (clausesOf x gl.l).length 4)) [.dead, .dead, .cells false ((clausesOf x gl.l).length * 4) (clsL (clausesOf x gl.l))] g :=
 does_le (clauses_all R x gl g hs h hg) ⟨LeO.dead _, LeO.dead _, LeO.rflc, trivial⟩
end Go.Avm.Pack
namespace Go.Avm.Pack
open Go Go.Avm Go.Proofs
open Go.IntKind (i64 u64)
open Go.Avm.AV (int bool any fz fp sl ow ref fn ifc val agg tup)
open Go.Avm.AObj (cells dead)
open Go.Avm.Oc (ret)
set_option maxRecDepth 4000
end Go.Avm.Pack
namespace Go.Avm.Pack
open Go Go.Avm Go.Proofs
open Go.IntKind (i64 u64)
open Go.Avm.AV (int bool any fz fp sl ow ref fn ifc val agg tup)
open Go.Avm.AObj (cells dead)
open Go.Avm.Oc (ret)
set_option maxRecDepth 4000
def thereC (x : Ix) (gl : List Rng) (c : Clause) : Prop := (c.pack = -1 ∧ 0 ≤ c.which ∧ c.which < gl.length) ∨
 (0 ≤ c.pack ∧ c.pack < x.l.length ∧ 0 ≤ c.rel ∧ c.rel < ((x.l.getD c.pack.toNat default).l.length : Int) ∧ 0 ≤ c.which ∧
  (c.bar = true → c.which < (((x.l.getD c.pack.toNat default).l.getD c.rel.toNat default).bars.l.length : Int)) ∧
  (c.bar = false → c.which < (((x.l.getD c.pack.toNat default).l.getD c.rel.toNat default).needs.l.length : Int)))
def brokenB (x : Ix) (gl : List Rng) (c : Clause) (p : Nat → Int) (many : Nat) : Bool :=
 if c.pack = -1 then decide ((gl.getD c.which.toNat default).pack < many) && !(metB p (gl.getD c.which.toNat default))
 else if c.pack ≥ many ∨ p c.pack.toNat ≠ c.rel then false
 else if c.bar = true then decide ((((x.l.getD c.pack.toNat default).l.getD c.rel.toNat default).bars.l.getD c.which.toNat default).pack < many) && metB p (((x.l.getD c.pack.toNat default).l.getD c.rel.toNat default).bars.l.getD c.which.toNat default)
 else decide ((((x.l.getD c.pack.toNat default).l.getD c.rel.toNat default).needs.l.getD c.which.toNat default).pack < many) && !(metB p (((x.l.getD c.pack.toNat default).l.getD c.rel.toNat default).needs.l.getD c.which.toNat default))
theorem c_broken (R : Res) (x : Ix) (gl : KL Rng) (c : Clause) (p : Nat → Int) (many : Nat) (hp : List AObj) (g : R.σ) (hx : formedB x = true) (hgl : ∀ r ∈ gl.l, 0 ≤ r.pack ∧ r.pack < x.l.length) (hc : thereC x gl.l c) (hm : many ≤ 8) :
  Does Tryd.prog R 87 [encMkt x gl, encCl c, encPlan p, .int .i64 many] hp g (.ret (.bool (brokenB x gl.l c p many))) hp g := by
 have h8 := (formed_le hx).2
 have t1 : c.pack = -1 → 0 ≤ c.which ∧ c.which < gl.l.length := fun h => by
  rcases hc with hc | hc
  ·exact hc.2
  ·omega
 have t2 : ¬ c.pack = -1 → 0 ≤ c.pack ∧ c.pack < x.l.length ∧ 0 ≤ c.rel ∧ c.rel < ((x.l.getD c.pack.toNat default).l.length : Int) ∧ 0 ≤ c.which := fun h => by
  rcases hc with hc | hc
  ·exact absurd hc.1 h
  ·exact ⟨hc.1, hc.2.1, hc.2.2.1, hc.2.2.2.1, hc.2.2.2.2.1⟩
 have t3 : ¬ c.pack = -1 → c.bar = true → c.which < (((x.l.getD c.pack.toNat default).l.getD c.rel.toNat default).bars.l.length : Int) := fun h h' => by
  rcases hc with hc | hc
  ·exact absurd hc.1 h
  ·exact hc.2.2.2.2.2.1 h'
 have t4 : ¬ c.pack = -1 → c.bar = false → c.which < (((x.l.getD c.pack.toNat default).l.getD c.rel.toNat default).needs.l.length : Int) := fun h h' => by
  rcases hc with hc | hc
  ·exact absurd hc.1 h
  ·exact hc.2.2.2.2.2.2 h'
 have t5 : c.pack = -1 → 0 ≤ (gl.l.getD c.which.toNat default).pack ∧ (gl.l.getD c.which.toNat default).pack < x.l.length := fun h => by
  have := t1 h
  exact hgl _ (getD_mem _ _ (by omega))
 have t6 : ¬ c.pack = -1 → relB x c.pack ((x.l.getD c.pack.toNat default).l.getD c.rel.toNat default) = true := fun h => by
  have := t2 h
  have e := formed_rel hx (i := c.pack.toNat) (k := c.rel.toNat) (by omega) (by omega)
  rw [Int.toNat_of_nonneg (by omega)] at e
  exact e
 have b1 : ¬ c.pack = -1 → ∀ r ∈ ((x.l.getD c.pack.toNat default).l.getD c.rel.toNat default).bars.l, 0 ≤ r.pack ∧ r.pack < x.l.length := fun h r hr => by
  have e := t6 h
  unfold relB at e
  simp only [Bool.and_eq_true] at e
  have := List.all_eq_true.1 e.2 r hr
  unfold otherB at this
  simp only [Bool.and_eq_true] at this
  exact ranged_pack this.1
 have b2 : ¬ c.pack = -1 → ∀ r ∈ ((x.l.getD c.pack.toNat default).l.getD c.rel.toNat default).needs.l, 0 ≤ r.pack ∧ r.pack < x.l.length := fun h r hr => by
  have e := t6 h
  unfold relB at e
  simp only [Bool.and_eq_true] at e
  have := List.all_eq_true.1 e.1.2 r hr
  unfold otherB at this
  simp only [Bool.and_eq_true] at this
  exact ranged_pack this.1
 refine does_any' (fun R g => ?_) (by exact ⟨⟨⟨trivial, trivial⟩, trivial⟩, ⟨⟨⟨⟨⟨trivial, trivial⟩, trivial⟩, trivial⟩, trivial⟩, ⟨⟨⟨⟨⟨⟨⟨⟨⟨trivial, trivial⟩, trivial⟩, trivial⟩, trivial⟩, trivial⟩, trivial⟩, trivial⟩, trivial⟩, ⟨trivial, trivial⟩⟩⟩⟩) R hp g
 refine spec_of_wp (nt := 89) (rs := [.tmp 8]) (k0 := 0) (by kernel_rfl) (by kernel_rfl) (by kernel_rfl) rfl ?_
 refine vcQ [] (lkL [(0, [3, 4, 5, 6]), (1, [3, 4, 5, 6, 15]), (2, [3, 6, 9]), (3, [8]), (4, [3, 4, 5, 6, 44]), (5, [8]), (6, [3, 5, 6, 10]), (7, [3, 5, 6, 10, 57]), (8, [3, 6, 11]), (9, [8]), (10, [3, 6, 12]), (11, [8])]) (lkL [(2, [(7, ROrc.val (Orc.obj (nth [int i64 (gl.l.getD (c.which.toNat) default).pack, int i64 (gl.l.getD (c.which.toNat) default).low, int i64 (gl.l.getD (c.which.toNat) default).high])))]), (3, [(7, ROrc.pcall (AV.bool (inR (p ((gl.l.getD (c.which.toNat) default).pack.toNat)) (gl.l.getD (c.which.toNat) default))))]), (6, [(12, ROrc.val (Orc.obj (nth [encR ((x.l.getD (c.pack.toNat) default).l.getD (c.rel.toNat) default).needs, encR ((x.l.getD (c.pack.toNat) default).l.getD (c.rel.toNat) default).bars])))]), (8, [(7, ROrc.val (Orc.obj (nth [int i64 (((x.l.getD (c.pack.toNat) default).l.getD (c.rel.toNat) default).bars.l.getD (c.which.toNat) default).pack, int i64 (((x.l.getD (c.pack.toNat) default).l.getD (c.rel.toNat) default).bars.l.getD (c.which.toNat) default).low, int i64 (((x.l.getD (c.pack.toNat) default).l.getD (c.rel.toNat) default).bars.l.getD (c.which.toNat) default).high])))]), (9, [(7, ROrc.pcall (AV.bool (inR (p ((((x.l.getD (c.pack.toNat) default).l.getD (c.rel.toNat) default).bars.l.getD (c.which.toNat) default).pack.toNat)) (((x.l.getD (c.pack.toNat) default).l.getD (c.rel.toNat) default).bars.l.getD (c.which.toNat) default))))]), (10, [(7, ROrc.val (Orc.obj (nth [int i64 (((x.l.getD (c.pack.toNat) default).l.getD (c.rel.toNat) default).needs.l.getD (c.which.toNat) default).pack, int i64 (((x.l.getD (c.pack.toNat) default).l.getD (c.rel.toNat) default).needs.l.getD (c.which.toNat) default).low, int i64 (((x.l.getD (c.pack.toNat) default).l.getD (c.rel.toNat) default).needs.l.getD (c.which.toNat) default).high])))]), (11, [(7, ROrc.pcall (AV.bool (inR (p ((((x.l.getD (c.pack.toNat) default).l.getD (c.rel.toNat) default).needs.l.getD (c.which.toNat) default).pack.toNat)) (((x.l.getD (c.pack.toNat) default).l.getD (c.rel.toNat) default).needs.l.getD (c.which.toNat) default))))])]) (fun Q => (fun (u1 : Rel) => (fun (u2 : Rng) => (fun (u3 : Rng) => (fun (u4 : Rng) => (fun (u5 : Int) => (fun (u6 : AObj) => (fun (u7 : AObj) => (fun (u8 : AObj) => (fun (u9 : Bool) => (fun (u10 : List AV) => (fun (u11 : List AV) => (fun (u12 : List AV) => (fun (u13 : List AV) => (fun (u14 : List AV) => (fun (u15 : Bool) => (fun (u16 : Bool) => 1 ≤ 4 ∧ ((c.pack == -1) = true → 2 ≤ 2 ∧ 4 ≤ 4 ∧ (0 ≤ c.which ∧ c.which < (gl.l.length : Int)) ∧ 3 ≤ 3 ∧ 3 ≤ 3 ∧ (∀ (c : Nat), c < 3 → nth u11 c = over (nth u14) 0 3 (List.brecOn (motive := fun (x : List AV) => Nat → AV) u11 nth._f) c) ∧ 1 ≤ 3 ∧ (u16 = true → 8 ≤ 8) ∧ (u16 = true → 3 ≤ 3) ∧ (u16 = true → ∀ (hp : List AObj) (g : R.σ), true = true ∧ Does Tryd.prog R 97 [encPlan p, encRng u4] hp g (ret (AV.bool (inR (p (u4.pack.toNat)) u4))) hp g) ∧ Q AEx.ret (St.mk [(8, AV.bool (bif u16 then !inR (p (u4.pack.toNat)) u4 else false))] [u8, u6, u7, cells false 3 (nth u11)] g)) ∧ ((c.pack == -1) = false → Tables.follows Tryd.prog.toTables Departure.mixedOrders = true ∧ 1 ≤ 4 ∧ ((!u9) = true → 1 ≤ 4) ∧ ((!u9) = true → 0 ≤ c.pack ∧ c.pack < (↑8 : Int)) ∧ ((!u9) = true → c.pack.toNat + 1 ≤ 8) ∧ ((!u9) = true → 2 ≤ 4) ∧ ((bif u9 then true else p (c.pack.toNat) != c.rel) = true → Q AEx.ret (St.mk [(8, AV.bool false)] [u8, u6, u7] g)) ∧ ((bif u9 then true else p (c.pack.toNat) != c.rel) = false → Tables.follows Tryd.prog.toTables Departure.mixedOrders = true ∧ 1 ≤ 2 ∧ 1 ≤ 4 ∧ (0 ≤ c.pack ∧ c.pack < (x.l.length : Int)) ∧ 1 ≤ 1 ∧ 2 ≤ 4 ∧ (0 ≤ c.rel ∧ c.rel < (↑((x.l.getD (c.pack.toNat) default).l.length) : Int)) ∧ 2 ≤ 2 ∧ 2 ≤ 2 ∧ (∀ (c : Nat), c < 2 → nth u13 c = over (nth [fz Fz.nil 0 0 fun (x x_3 : Nat) => any, fz Fz.nil 0 0 fun (x x_3 : Nat) => any]) 0 2 (List.brecOn (motive := fun (x : List AV) => Nat → AV) u13 nth._f) c) ∧ 3 ≤ 4 ∧ (c.bar = true → 2 ≤ 2 ∧ 4 ≤ 4 ∧ (0 ≤ c.which ∧ c.which < (u1.bars.l.length : Int)) ∧ 3 ≤ 3 ∧ 3 ≤ 3 ∧ (∀ (c : Nat), c < 3 → nth u10 c = over (nth u14) 0 3 (List.brecOn (motive := fun (x : List AV) => Nat → AV) u10 nth._f) c) ∧ 1 ≤ 3 ∧ (decide (u3.pack < u5) = true → 8 ≤ 8) ∧ (decide (u3.pack < u5) = true → 3 ≤ 3) ∧ (decide (u3.pack < u5) = true → ∀ (hp : List AObj) (g : R.σ), true = true ∧ Does Tryd.prog R 97 [encPlan p, encRng u3] hp g (ret (AV.bool (inR (p (u3.pack.toNat)) u3))) hp g) ∧ Q AEx.ret (St.mk [(8, AV.bool (bif decide (u3.pack < u5) then inR (p (u3.pack.toNat)) u3 else false))] [u8, u6, u7, cells false 2 (nth u13), cells false 3 (nth u10)] g)) ∧ (c.bar = false → 1 ≤ 2 ∧ 4 ≤ 4 ∧ (0 ≤ c.which ∧ c.which < (u1.needs.l.length : Int)) ∧ 3 ≤ 3 ∧ 3 ≤ 3 ∧ (∀ (c : Nat), c < 3 → nth u12 c = over (nth u14) 0 3 (List.brecOn (motive := fun (x : List AV) => Nat → AV) u12 nth._f) c) ∧ 1 ≤ 3 ∧ (u15 = true → 8 ≤ 8) ∧ (u15 = true → 3 ≤ 3) ∧ (u15 = true → ∀ (hp : List AObj) (g : R.σ), true = true ∧ Does Tryd.prog R 97 [encPlan p, encRng u2] hp g (ret (AV.bool (inR (p (u2.pack.toNat)) u2))) hp g) ∧ Q AEx.ret (St.mk [(8, AV.bool (bif u15 then !inR (p (u2.pack.toNat)) u2 else false))] [u8, u6, u7, cells false 2 (nth u13), cells false 3 (nth u12)] g))))) (decide (u4.pack < u5))) (decide (u2.pack < u5))) ([int i64 0, int i64 0, int i64 0])) ([encR u1.needs, encR u1.bars])) ([int i64 u2.pack, int i64 u2.low, int i64 u2.high])) ([int i64 u4.pack, int i64 u4.low, int i64 u4.high])) ([int i64 u3.pack, int i64 u3.low, int i64 u3.high])) (decide (c.pack ≥ u5))) (cells false 2 (nth [encPacks x, encR gl]))) (cells false 8 fun (a : Nat) => int i64 (p a))) (cells false 4 (nth [int i64 c.pack, int i64 c.rel, AV.bool c.bar, int i64 c.which]))) ((many : Int))) (gl.l.getD (c.which.toNat) default)) (u1.bars.l.getD (c.which.toNat) default)) (u1.needs.l.getD (c.which.toNat) default)) ((x.l.getD (c.pack.toNat) default).l.getD (c.rel.toNat) default)) (fun _ => by kernel_rfl) ⟨(by omega), ⟨fun c1 => have c1 : c.pack = -1 := (beq_iff_eq.mp c1); ⟨(by omega), ⟨(by omega), ⟨(by omega), ⟨(by omega), ⟨(by omega), ⟨(fun c hc => match c, hc with | 0, _ => (by kernel_rfl) | 1, _ => (by kernel_rfl) | 2, _ => (by kernel_rfl) ), ⟨(by omega), ⟨(by omega), ⟨(by omega), ⟨(fun hgd => (fun _ _ => ⟨rfl, (Go.Avm.Pack.c_meets _ _ _ _ _ (by simp at * <;> omega) (by simp at * <;> omega))⟩)), ?_⟩⟩⟩⟩⟩⟩⟩⟩⟩⟩, fun c1 => have c1 : ¬c.pack = -1 := (beq_eq_false_iff_ne.mp c1); ⟨(by kernel_rfl), ⟨(by omega), ⟨(by omega), ⟨(by omega), ⟨(by omega), ⟨(by omega), ⟨fun c2 => have c2 : c.pack ≥ (many : Int) ∨ ¬p (c.pack.toNat) = c.rel := ((cO_t c2).imp (fun h => (of_decide_eq_true h)) (fun h => (bne_iff_ne.mp h))); ?_, fun c2 => have c2 : ¬c.pack ≥ (many : Int) ∧ p (c.pack.toNat) = c.rel := ⟨(of_decide_eq_false (cO_f c2).1), (bne_eq_false_iff_eq.mp (cO_f c2).2)⟩; ⟨(by kernel_rfl), ⟨(by omega), ⟨(by omega), ⟨(by omega), ⟨(by omega), ⟨(by omega), ⟨(by omega), ⟨(by omega), ⟨(by omega), ⟨(fun c hc => match c, hc with | 0, _ => (by kernel_rfl) | 1, _ => (by kernel_rfl) ), ⟨(by omega), ⟨fun c3 => ⟨(by omega), ⟨(by omega), ⟨?_, ⟨(by omega), ⟨(by omega), ⟨(fun c hc => match c, hc with | 0, _ => (by kernel_rfl) | 1, _ => (by kernel_rfl) | 2, _ => (by kernel_rfl) ), ⟨(by omega), ⟨(by omega), ⟨(by omega), ⟨(fun hgd => (fun _ _ => ⟨rfl, (Go.Avm.Pack.c_meets _ _ _ _ _ ?_ (by simp at * <;> omega))⟩)), ?_⟩⟩⟩⟩⟩⟩⟩⟩⟩⟩, fun c3 => ⟨(by omega), ⟨(by omega), ⟨?_, ⟨(by omega), ⟨(by omega), ⟨(fun c hc => match c, hc with | 0, _ => (by kernel_rfl) | 1, _ => (by kernel_rfl) | 2, _ => (by kernel_rfl) ), ⟨(by omega), ⟨(by omega), ⟨(by omega), ⟨(fun hgd => (fun _ _ => ⟨rfl, (Go.Avm.Pack.c_meets _ _ _ _ _ ?_ (by simp at * <;> omega))⟩)), ?_⟩⟩⟩⟩⟩⟩⟩⟩⟩⟩⟩⟩⟩⟩⟩⟩⟩⟩⟩⟩⟩⟩⟩⟩⟩⟩⟩⟩⟩⟩⟩
 ·refine (retQ_le (retQ_drop _ _ rfl trivial trivial rfl) (Le.of_eq ?_))
  show (AV.bool (bif decide ((List.getD gl.l (Int.toNat c.which) default).pack < (↑many : Int)) then !inR (p (Int.toNat (List.getD gl.l (Int.toNat c.which) default).pack)) (List.getD gl.l (Int.toNat c.which) default) else false)) = _
  unfold brokenB
  rw [if_pos c1]
  congr 1
  cases decide ((gl.l.getD c.which.toNat default).pack < (many : Int)) <;> rfl
 ·refine (retQ_le (retQ_drop _ _ rfl trivial trivial rfl) (Le.of_eq ?_))
  show (AV.bool false) = _
  unfold brokenB
  rw [if_neg c1, if_pos c2]
 ·have := t2 c1
  have := t3 c1 c3
  omega
 ·have := t2 c1
  have := t3 c1 c3
  exact (b1 c1 _ (getD_mem _ _ (by omega))).1
 ·refine (retQ_le (retQ_drop _ _ rfl trivial trivial rfl) (Le.of_eq ?_))
  show (AV.bool (bif decide ((List.getD (List.getD (List.getD x.l (Int.toNat c.pack) default).l (Int.toNat c.rel) default).bars.l (Int.toNat c.which) default).pack < (↑many : Int)) then inR (p (Int.toNat (List.getD (List.getD (List.getD x.l (Int.toNat c.pack) default).l (Int.toNat c.rel) default).bars.l (Int.toNat c.which) default).pack)) (List.getD (List.getD (List.getD x.l (Int.toNat c.pack) default).l (Int.toNat c.rel) default).bars.l (Int.toNat c.which) default) else false)) = _
  unfold brokenB
  rw [if_neg c1, if_neg (by omega), if_pos c3]
  congr 1
  cases decide ((((x.l.getD c.pack.toNat default).l.getD c.rel.toNat default).bars.l.getD c.which.toNat default).pack < (many : Int)) <;> rfl
 ·have := t2 c1
  have := t4 c1 c3
  omega
 ·have := t2 c1
  have := t4 c1 c3
  exact (b2 c1 _ (getD_mem _ _ (by omega))).1
 ·refine (retQ_le (retQ_drop _ _ rfl trivial trivial rfl) (Le.of_eq ?_))
  show (AV.bool (bif decide ((List.getD (List.getD (List.getD x.l (Int.toNat c.pack) default).l (Int.toNat c.rel) default).needs.l (Int.toNat c.which) default).pack < (↑many : Int)) then !inR (p (Int.toNat (List.getD (List.getD (List.getD x.l (Int.toNat c.pack) default).l (Int.toNat c.rel) default).needs.l (Int.toNat c.which) default).pack)) (List.getD (List.getD (List.getD x.l (Int.toNat c.pack) default).l (Int.toNat c.rel) default).needs.l (Int.toNat c.which) default) else false)) = _
  unfold brokenB
  rw [if_neg c1, if_neg (by omega), if_neg (by simp [c3])]
  congr 1
  cases decide ((((x.l.getD c.pack.toNat default).l.getD c.rel.toNat default).needs.l.getD c.which.toNat default).pack < (many : Int)) <;> rfl
end Go.Avm.Pack
namespace Go.Avm.Pack
open Go Go.Avm Go.Proofs
open Go.IntKind (i64 u64)
open Go.Avm.AV (int bool any fz fp sl ow ref fn ifc val agg tup)
open Go.Avm.AObj (cells dead)
open Go.Avm.Oc (ret)
set_option maxRecDepth 4000
end Go.Avm.Pack
namespace Go.Avm.Pack
open Go Go.Avm Go.Proofs
open Go.IntKind (i64 u64)
open Go.Avm.AV (int bool any fz fp sl ow ref fn ifc val agg tup)
open Go.Avm.AObj (cells dead)
open Go.Avm.Oc (ret)
set_option maxRecDepth 4000
def itemC (n : Nat) : Nat → Int
 | 0 => -1
 | k + 1 => (n : Int) - (k + 1 : Nat)
theorem c_choices (R : Res) (x : Ix) (gl : KL Rng) (i : Nat) (hp : List AObj) (g : R.σ) : Does Tryd.prog R 88 [encMkt x gl, .int .i64 i] hp g (.ret (.fn 101 0 (nth []) 2 (nth [.fp 2 (nth [encPacks x, encR gl]), .fp 1 (nth [.int .i64 i])]))) hp g := by
 refine does_any' (fun R g => ?_) (by exact ⟨⟨⟨trivial, trivial⟩, trivial⟩, ⟨trivial, trivial⟩⟩) R hp g
 refine spec_of_wp (nt := 6) (rs := [.tmp 4]) (k0 := 0) (by kernel_rfl) (by kernel_rfl) (by kernel_rfl) rfl ?_
 refine vcQ [] (lkL [(0, [2, 3]), (1, [4])]) (fun _ => []) (fun Q => Q AEx.ret (St.mk [(4, fn 101 0 (nth []) 2 (nth [ref 0 0, ref 1 0]))] [cells false 2 (nth [encPacks x, encR gl]), cells false 1 fun (a : Nat) => int i64 (i : Int)] g)) (fun _ => by kernel_rfl) (?_)
 refine (retQ_le (retQ_frz 0 [1, 0] _ _ rfl trivial (by omega) (by exact ⟨(fun j hj => match j, hj with | 0, _ => trivial ), ⟨⟨trivial, ⟨⟨trivial, trivial⟩, trivial⟩⟩, ⟨(fun j hj => match j, hj with | 0, _ => trivial | 1, _ => trivial ), ⟨⟨trivial, ⟨⟨trivial, trivial⟩, trivial⟩⟩, trivial⟩⟩⟩⟩) (by exact ⟨trivial, ⟨⟨trivial, trivial⟩, trivial⟩⟩) (by exact trivial) (by kernel_rfl) rfl rfl) (Le.fn (fun i hi => absurd hi (by omega)) (fun i hi => match i, hi with | 0, _ => (Le.fp (fun i hi => match i, hi with | 0, _ => (Le.refl _) | 1, _ => (Le.refl _) )) | 1, _ => (Le.fp (fun i hi => match i, hi with | 0, _ => (Le.of_eq (by kernel_rfl)) )) )))
theorem stopF_all {c : Nat → Bool} {n : Nat} (h : ∀ j, j < n → c j = true) : stopF c n 0 = n := by
 rcases stopF_cases c n 0 with ⟨_, h2⟩ | ⟨i, _, h2, _, h4, _⟩
 ·omega
 ·rw [h i (by omega)] at h4; cases h4
theorem stopF_at {c : Nat → Bool} {n k : Nat} (h : ∀ j, j < k → c j = true) (hk : k < n) (hc : c k = false) : stopF c n 0 = k + 1 := by
 rcases stopF_cases c n 0 with ⟨h1, _⟩ | ⟨i, _, h2, h3, h4, h5⟩
 ·rw [h1 k (by omega) (by omega)] at hc; cases hc
 ·rw [h5]
  rcases Nat.lt_trichotomy i k with hl | hl | hl
  ·rw [h i hl] at h4; cases h4
  ·rw [hl]
  ·rw [h3 k (by omega) hl] at hc; cases hc
theorem seq_choices (x : Ix) (gl : KL Rng) (i n : Nat) (hi : i < x.l.length) (h8 : x.l.length ≤ 8) (hn : (x.l.getD i default).l.length = n) (hn5 : n ≤ 5) :
  SeqC Tryd.prog 101 [] [.fp 2 (nth [encPacks x, encR gl]), .fp 1 (nth [.int .i64 i])] (n + 1) (fun k => [.int .i64 (itemC n k)]) := by
 refine ⟨fun R _ u G c hu => ?_⟩
 show Does Tryd.prog R 101 [.val u, .fp 2 (nth [encPacks x, encR gl]), .fp 1 (nth [.int .i64 i])] [] (G 0) (.ret (.tup 0 (nth []))) [] (G (stopF c (n + 1) 0))
 refine spec_of_wp (nt := 24) (rs := []) (k0 := 0) (by kernel_rfl) (by kernel_rfl) (by kernel_rfl) rfl ?_
 refine vcQ [] (lkL [(0, [0, 1, 2, 7]), (1, [0, 4])]) (lkL [(0, [(1, ROrc.gcall (AV.bool (c 0)) (G (0 + 1)))])]) (fun Q => VDoes Tryd.prog R u [int i64 (-1)] [] (G 0) (ret (AV.bool (c 0))) [] (G 1) ∧ ((!c 0) = true → Q AEx.ret (St.mk [(0, val u), (1, fp 2 (nth [encPacks x, encR gl])), (2, fp 1 (nth [int i64 (i : Int)])), (7, AV.bool !c 0)] [] (G 1))) ∧ ((!c 0) = false → 1 ≤ 2 ∧ 1 ≤ 1 ∧ (0 ≤ (i : Int) ∧ (i : Int) < (x.l.length : Int)) ∧ 1 ≤ 1 ∧ (-9223372036854775808 ≤ (↑((x.l.getD i default).l.length) : Int) - 1 ∧ (↑((x.l.getD i default).l.length) : Int) - 1 ≤ 9223372036854775807) ∧ Wp Tryd.prog R 24 0 Rd.top (bodyOf Tryd.prog 101) [1, 1, 0] (contQ Tryd.prog R 24 0 Rd.top (bodyOf Tryd.prog 101) Q [Kont.blk 0]) (St.mk [(0, val u), (4, int i64 ((↑((x.l.getD i default).l.length) : Int) - 1))] [] (G 1)))) (fun _ => by kernel_rfl) ⟨(hu (0) (by omega) (by omega) _), ⟨fun c1 => have c1 : c 0 = false := ((Bool.not_eq_true' _).mp c1); ?_, fun c1 => have c1 : c 0 = true := ((Bool.not_eq_false' _).mp c1); ⟨(by omega), ⟨(by omega), ⟨(by omega), ⟨(by omega), ⟨(by omega), ?_⟩⟩⟩⟩⟩⟩⟩
 ·rw [show stopF c (n + 1) 0 = 1 by unfold stopF; rw [c1]; rfl]
  refine (retQ_le (retQ_same' _ _ rfl trivial rfl rfl rfl) (Le.refl _))
 ·have h0 := c1
  refine (wp_loop (by kernel_rfl) (fun (k : Nat) => ⟨[(0, val u), (4, .int .i64 (itemC n (k + 1)))], [], (G (k + 1))⟩) (fun (k : Nat) => (k ≤ n ∧ ∀ j, j < k + 1 → c j = true)) (fun (k : Nat) => (n - k)) 0 (to_fr ⟨(Le.refl _), ⟨(Le.of_eq ?_), trivial⟩⟩ rfl rfl) ?_ (fun k hi => ?_))
  ·show AV.int .i64 _ = AV.int .i64 _
   rw [hn]; rfl
  ·refine ⟨Nat.zero_le _, fun j hj => ?_⟩
   have : j = 0 := by omega
   subst this; exact h0
  ·obtain ⟨h1, h2⟩ := hi
   have e : itemC n (k + 1) = (n : Int) - (k + 1 : Nat) := rfl
   refine vcQ [] (lkL [(2, [0, 4, 17]), (4, [0, 4, 23]), (3, [0, 4])]) (lkL [(4, [(2, ROrc.gcall (AV.bool (c (k + 1))) (G (k + 1 + 1)))])]) (fun Q => (decide (itemC n (k + 1) ≥ 0) = true → VDoes Tryd.prog R u [int i64 (itemC n (k + 1))] [] (G (k + 1)) (ret (AV.bool (c (k + 1)))) [] (G (k + 1 + 1)) ∧ ((!c (k + 1)) = true → Q AEx.ret (St.mk [(0, val u), (4, int i64 (itemC n (k + 1))), (23, AV.bool !c (k + 1))] [] (G (k + 1 + 1)))) ∧ ((!c (k + 1)) = false → (-9223372036854775808 ≤ itemC n (k + 1) - 1 ∧ itemC n (k + 1) - 1 ≤ 9223372036854775807) ∧ Q AEx.normal (St.mk [(0, val u), (4, int i64 (itemC n (k + 1) - 1))] [] (G (k + 1 + 1))))) ∧ (decide (itemC n (k + 1) ≥ 0) = false → Q (AEx.exit 0) (St.mk [(0, val u), (4, int i64 (itemC n (k + 1))), (17, AV.bool (decide (itemC n (k + 1) ≥ 0)))] [] (G (k + 1))))) (fun _ => by kernel_rfl) ⟨fun c1 => have c1 : itemC n (k + 1) ≥ 0 := (of_decide_eq_true c1); ⟨(hu (k + 1) (by simp at * <;> omega) (by omega) _), ⟨fun c2 => have c2 : c (k + 1) = false := ((Bool.not_eq_true' _).mp c2); ?_, fun c2 => have c2 : c (k + 1) = true := ((Bool.not_eq_false' _).mp c2); ⟨(by omega), ?_⟩⟩⟩, fun c1 => have c1 : ¬itemC n (k + 1) ≥ 0 := (of_decide_eq_false c1); ?_⟩
   ·rw [stopF_at h2 (by omega) c2]
    refine ⟨_, To.refl _, (retQ_le (retQ_same' _ _ rfl trivial rfl rfl rfl) (Le.refl _))⟩
   ·refine (next_round (k + 1) (to_fr ⟨(Le.refl _), ⟨(Le.of_eq ?_), trivial⟩⟩ rfl rfl) ?_ ?_)
    ·show AV.int .i64 _ = AV.int .i64 _
     rw [e]
     show AV.int .i64 _ = AV.int .i64 ((n : Int) - (k + 1 + 1 : Nat))
     congr 1
     omega
    ·refine ⟨by omega, fun j hj => ?_⟩
     rcases Nat.lt_or_ge j (k + 1) with h | h
     ·exact h2 j h
     ·have : j = k + 1 := by omega
      subst this; exact c2
    ·omega
   ·have : k = n := by omega
    subst this
    rw [stopF_all h2]
    refine ⟨_, To.refl _, (retQ_le (retQ_same' _ _ rfl trivial rfl rfl rfl) (Le.refl _))⟩
end Go.Avm.Pack
namespace Go.Avm.Pack
open Go Go.Avm Go.Proofs
open Go.IntKind (i64 u64)
open Go.Avm.AV (int bool any fz fp sl ow ref fn ifc val agg tup)
open Go.Avm.AObj (cells dead)
open Go.Avm.Oc (ret)
set_option maxRecDepth 4000
theorem c_each11 (R : Res) (x : Ix) (gl : KL Rng) (c : Clause) (p : Nat → Int) (many : Nat) (g : R.σ) (hx : formedB x = true) (hgl : ∀ r ∈ gl.l, 0 ≤ r.pack ∧ r.pack < x.l.length) (hc : thereC x gl.l c) (hm : many ≤ 8) :
  Does Tryd.prog R 86 [encCl c, .ref 0 0, .ref 1 0, .ref 2 0] [.cells false 2 (nth [encPacks x, encR gl]), .cells false 8 (fun a => .int .i64 (p a)), .cells false 1 (nth [.int .i64 many])] g (.ret (.bool (brokenB x gl.l c p many))) [.cells false 2 (nth [encPacks x, encR gl]), .cells false 8 (fun a => .int .i64 (p a)), .cells false 1 (nth [.int .i64 many])] g := by
 refine spec_of_wp (nt := 11) (rs := [.tmp 5]) (k0 := 3) (by kernel_rfl) (by kernel_rfl) (by kernel_rfl) rfl ?_
 refine vcQ [] (lkL [(0, [1, 2, 3, 4]), (1, [5])]) (lkL [(1, [(4, ROrc.pcall (AV.bool (brokenB x gl.l c p many)))])]) (fun Q => 2 ≤ 2 ∧ 4 ≤ 4 ∧ 8 ≤ 8 ∧ 1 ≤ 1 ∧ (∀ (hp : List AObj) (g : R.σ), true = true ∧ Does Tryd.prog R 87 [encMkt x gl, encCl c, encPlan p, int i64 (many : Int)] hp g (ret (AV.bool (brokenB x gl.l c p many))) hp g) ∧ Q AEx.ret (St.mk [(5, AV.bool (brokenB x gl.l c p many))] [cells false 2 (nth [encPacks x, encR gl]), cells false 8 fun (a : Nat) => int i64 (p a), cells false 1 (nth [int i64 (many : Int)]), cells false 4 (nth [int i64 c.pack, int i64 c.rel, AV.bool c.bar, int i64 c.which])] g)) (fun _ => by kernel_rfl) ⟨(by omega), ⟨(by omega), ⟨(by omega), ⟨(by omega), ⟨(fun _ _ => ⟨rfl, (Go.Avm.Pack.c_broken _ _ _ _ _ _ _ _ (by omega) (by omega) (by omega) (by omega))⟩), ?_⟩⟩⟩⟩⟩
 refine (retQ_le (retQ_take' 3 _ _ rfl trivial (by omega) trivial ⟨(fun j hj => match j, hj with | 0, _ => trivial | 1, _ => trivial ), ⟨(fun j hj => match j, hj with | 0, _ => trivial | 1, _ => trivial | 2, _ => trivial | 3, _ => trivial | 4, _ => trivial | 5, _ => trivial | 6, _ => trivial | 7, _ => trivial ), ⟨(fun j hj => match j, hj with | 0, _ => trivial ), trivial⟩⟩⟩ (by kernel_rfl) rfl rfl) (Le.refl _))

section
variable {β : Type}
def bK (f : β → Int → Bool × β) (it : Nat → Int) (b : β) : Nat → β
 | 0 => b
 | k + 1 => (f (bK f it b k) (it k)).2
def cK (f : β → Int → Bool × β) (it : Nat → Int) (b : β) (k : Nat) : Bool := (f (bK f it b k) (it k)).1
def goN (f : β → Int → Bool × β) (it : Nat → Int) (n : Nat) (b : β) : Bool × β := ((List.range n).all (cK f it b), bK f it b (stopF (cK f it b) n 0))
theorem goN_all {f : β → Int → Bool × β} {it : Nat → Int} {n : Nat} {b : β} (h : ∀ k, k < n → cK f it b k = true) : goN f it n b = (true, bK f it b n) := by
 unfold goN
 rw [stopF_all h]
 congr 1
 rw [List.all_eq_true]
 intro k hk
 exact h k (by simpa using hk)
theorem goN_at {f : β → Int → Bool × β} {it : Nat → Int} {n k : Nat} {b : β} (h : ∀ j, j < k → cK f it b j = true) (hk : k < n) (hc : cK f it b k = false) : goN f it n b = (false, bK f it b (k + 1)) := by
 unfold goN
 rw [stopF_at h hk hc]
 congr 1
 rw [List.all_eq_false]
 exact ⟨k, by simpa using hk, by simp [hc]⟩
def updP (p : Nat → Int) (m : Nat) (v : Int) : Nat → Int := fun j => if j = m then v else p j
def brkB (x : Ix) (gl : List Rng) (l : List Clause) (p : Nat → Int) (many : Nat) : Bool := l.any fun c => brokenB x gl c p many
def eachR (x : Ix) (gl : List Rng) (l : List Clause) (wn : β → (Nat → Int) → Nat → Bool × β) (fd : β → (Nat → Int) → Bool × β) : Nat → β → (Nat → Int) → Bool × β
 | 0, b, p => if brkB x gl l p x.l.length then (true, b) else if (wn b p x.l.length).1 then fd (wn b p x.l.length).2 p else (true, (wn b p x.l.length).2)
 | n + 1, b, p => if brkB x gl l p (x.l.length - (n + 1)) then (true, b) else if (wn b p (x.l.length - (n + 1))).1 then
     goN (fun b v => eachR x gl l wn fd n b (updP p (x.l.length - (n + 1)) v)) (itemC (x.l.getD (x.l.length - (n + 1)) default).l.length) ((x.l.getD (x.l.length - (n + 1)) default).l.length + 1) (wn b p (x.l.length - (n + 1))).2
   else (true, (wn b p (x.l.length - (n + 1))).2)
end
def hpE (x : Ix) (gl : KL Rng) (l : KL Clause) (uw uf : Value) : List AObj := [.cells false 2 (nth [encPacks x, encR gl]), .cells false 1 (nth [encC l]), .cells false 1 (nth [.val uw]), .cells false 1 (nth [.val uf]), .cells false 1 (nth [.fn 84 0 (nth []) 5 (nth [.ref 1 0, .ref 0 0, .ref 2 0, .ref 3 0, .ref 4 0])])]
def inQ (x : Ix) (p : Nat → Int) (many : Nat) : Prop := ∀ i, i < many → -1 ≤ p i ∧ p i < ((x.l.getD i default).l.length : Int)
theorem inQ_upd {x : Ix} {p : Nat → Int} {m : Nat} {v : Int} (h : inQ x p m) (h1 : -1 ≤ v) (h2 : v < ((x.l.getD m default).l.length : Int)) : inQ x (updP p m v) (m + 1) := by
 intro i hi
 unfold updP
 by_cases e : i = m
 ·subst e; rw [if_pos rfl]; exact ⟨h1, h2⟩
 ·rw [if_neg e]; exact h i (by omega)
theorem itemC_in {n k : Nat} (h : k < n + 1) : -1 ≤ itemC n k ∧ itemC n k < (n : Int) := by
 cases k with
 | zero => exact ⟨by show (-1 : Int) ≤ -1; omega, by show (-1 : Int) < n; omega⟩
 | succ k => exact ⟨by show (-1 : Int) ≤ n - (k + 1 : Nat); omega, by show (n : Int) - (k + 1 : Nat) < n; omega⟩
theorem below_encPlan (p : Nat → Int) : Below 0 (encPlan p) := ⟨⟨⟨⟨⟨⟨⟨⟨trivial, trivial⟩, trivial⟩, trivial⟩, trivial⟩, trivial⟩, trivial⟩, trivial⟩, trivial⟩
def pB (p : Nat → Int) (m : Nat) (it : Nat → Int) : Nat → Nat → Int
 | 0 => p
 | k + 1 => updP p m (it k)
structure EachH {β : Type} (x : Ix) (R : Res) (G : β → R.σ) (I : β → Prop) (wn : β → (Nat → Int) → Nat → Bool × β) (fd : β → (Nat → Int) → Bool × β) (uw uf : Value) : Prop where
 w : ∀ b p m, I b → inQ x p m → m ≤ x.l.length → ∀ hpo, VDoes Tryd.prog R uw [encPlan p, .int .i64 m] hpo (G b) (.ret (.bool (wn b p m).1)) hpo (G (wn b p m).2)
 f : ∀ b p, I b → inQ x p x.l.length → ∀ hpo, VDoes Tryd.prog R uf [encPlan p] hpo (G b) (.ret (.bool (fd b p).1)) hpo (G (fd b p).2)
 wI : ∀ b p m, I b → inQ x p m → m ≤ x.l.length → I (wn b p m).2
 fI : ∀ b p, I b → inQ x p x.l.length → I (fd b p).2
theorem EachH.lift {β : Type} {x : Ix} {R : Res} {G : β → R.σ} {I : β → Prop} {wn : β → (Nat → Int) → Nat → Bool × β} {fd : β → (Nat → Int) → Bool × β} {uw uf : Value} (h : EachH x R G I wn fd uw uf) (FM : Mem) (ρ ρ1 : Plc) (q : List AObj) :
  EachH x (absorbS R FM ρ ρ1) (fun b => (G b, q)) I wn fd uw uf :=
 ⟨fun b p m h1 h2 h3 hpo => vdoes_liftS (args := [encPlan p, .int .i64 m]) ⟨below_encPlan p, trivial, trivial⟩ (show ocBelow (.ret (.bool _)) from trivial) (h.w b p m h1 h2 h3 []) hpo, fun b p h1 h2 hpo => vdoes_liftS (args := [encPlan p]) ⟨below_encPlan p, trivial⟩ (show ocBelow (.ret (.bool _)) from trivial) (h.f b p h1 h2 []) hpo, h.wI, h.fI⟩
theorem bK_I {β : Type} {I : β → Prop} {f : β → Int → Bool × β} {it : Nat → Int} {b : β} {n : Nat} (hb : I b) (h : ∀ b k, I b → k < n → I (f b (it k)).2) : ∀ k, k ≤ n → I (bK f it b k)
 | 0, _ => hb
 | k + 1, hk => h _ k (bK_I hb h k (by omega)) (by omega)
theorem stopF_le {c : Nat → Bool} {n : Nat} : stopF c n 0 ≤ n := by
 rcases stopF_cases c n 0 with ⟨_, h⟩ | ⟨i, _, h1, _, _, h⟩ <;> omega
theorem eachR_I {β : Type} {x : Ix} {gl : List Rng} {l : List Clause} {I : β → Prop} {wn : β → (Nat → Int) → Nat → Bool × β} {fd : β → (Nat → Int) → Bool × β}
  (wI : ∀ b p m, I b → inQ x p m → m ≤ x.l.length → I (wn b p m).2) (fI : ∀ b p, I b → inQ x p x.l.length → I (fd b p).2) : ∀ (n : Nat) (b : β) (p : Nat → Int), I b → n ≤ x.l.length → inQ x p (x.l.length - n) → I (eachR x gl l wn fd n b p).2
 | 0, b, p, hb, _, hp => by
   unfold eachR
   split
   ·exact hb
   ·split
    ·exact fI _ _ (wI _ _ _ hb hp (Nat.le_refl _)) hp
    ·exact wI _ _ _ hb hp (Nat.le_refl _)
 | n + 1, b, p, hb, hn, hp => by
   unfold eachR
   split
   ·exact hb
   ·split
    ·refine bK_I (wI _ _ _ hb hp (by omega)) (fun b k hb' hk => ?_) _ stopF_le
     have := itemC_in hk
     exact eachR_I wI fI n b _ hb' (by omega) (by have h1 := inQ_upd hp this.1 this.2; rwa [show x.l.length - n = x.l.length - (n + 1) + 1 by omega])
    ·exact wI _ _ _ hb hp (by omega)
theorem each1_zero {β : Type} (x : Ix) (gl : KL Rng) (l : KL Clause) (uw uf : Value) (hx : formedB x = true) (hgl : ∀ r ∈ gl.l, 0 ≤ r.pack ∧ r.pack < x.l.length) (hl : ∀ c ∈ l.l, thereC x gl.l c) (hll : l.l.length < 1000000) (R : Res) (G : β → R.σ) (I : β → Prop) (wn : β → (Nat → Int) → Nat → Bool × β) (fd : β → (Nat → Int) → Bool × β)
  (hE : EachH x R G I wn fd uw uf) (b : β) (p : Nat → Int) (hb : I b) (hp : inQ x p x.l.length) :
  Does Tryd.prog R 84 [encPlan p, .int .i64 x.l.length, .ref 1 0, .ref 0 0, .ref 2 0, .ref 3 0, .ref 4 0] (hpE x gl l uw uf) (G b) (.ret (.bool (eachR x gl.l l.l wn fd 0 b p).1)) (hpE x gl l uw uf) (G (eachR x gl.l l.l wn fd 0 b p).2) := by
 have h8 := (formed_le hx).2
 have hwp := hE.w b p x.l.length hb hp (Nat.le_refl _)
 have hfp := hE.f (wn b p x.l.length).2 p (hE.wI b p x.l.length hb hp (Nat.le_refl _)) hp
 cases hbr : l.l.any (fun c => brokenB x gl.l c p x.l.length) with
 | true =>
   have e : eachR x gl.l l.l wn fd 0 b p = (true, b) := by unfold eachR brkB; rw [hbr]; rfl
   rw [e]
   refine spec_of_wp (nt := 43) (rs := [.cell 9 4]) (k0 := 5) (by kernel_rfl) (by kernel_rfl) (by kernel_rfl) rfl ?_
   refine vcQ [] (lkL [(0, [2, 3, 4, 5, 6, 7, 8, 9]), (1, [3, 5, 6, 7, 8, 9, 20]), (2, [9]), (3, [3, 5, 6, 7, 8, 9, 26]), (4, [9]), (5, [6, 7, 8, 9, 32])]) (lkL [(1, [(2, ROrc.kcall (AV.bool true)), (7, ROrc.gcall (AV.bool (wn b p (x.l.length)).fst) (G (wn b p (x.l.length)).snd))]), (2, [(0, ROrc.val (Orc.obj (nth [AV.bool true])))]), (5, [(2, ROrc.pcall (fn 101 0 (nth []) 2 (nth [fp 2 (nth [encPacks x, encR gl]), fp 1 (nth [int i64 (x.l.length : Int)])])))])]) (fun Q => (fun (u1 : List AObj) => (fun (u2 : Int) => (fun (u3 : AV) => 1 ≤ 1 ∧ (true = true ∧ Does Tryd.prog R 85 [encC l, fn 86 0 (nth []) 3 (nth [ref 0 0, ref 5 0, ref 6 0])] u1 (G b) (ret (AV.bool true)) u1 (G b)) ∧ (false = true → 1 ≤ 1) ∧ (false = true → 8 ≤ 8) ∧ (false = true → 1 ≤ 1) ∧ (false = true → VDoes Tryd.prog R uw [encPlan p, int i64 u2] u1 (G b) (ret (AV.bool (wn b p (x.l.length)).fst)) u1 (G (wn b p (x.l.length)).snd)) ∧ (true = true → 1 ≤ 1 ∧ (∀ (c : Nat), c < 1 → nth [AV.bool true] c = over (fun (a : Nat) => AV.bool false) 0 1 (fun (x : Nat) => AV.bool true) c) ∧ Q AEx.ret (St.mk [(9, ref 7 0)] [cells false 2 (nth [encPacks x, encR gl]), cells false 1 (nth [encC l]), cells false 1 (nth [val uw]), cells false 1 (nth [val uf]), cells false 1 (nth [fn 84 0 (nth []) 5 (nth [ref 1 0, ref 0 0, ref 2 0, ref 3 0, ref 4 0])]), cells false 8 fun (a : Nat) => int i64 (p a), cells false 1 fun (a : Nat) => int i64 u2, cells false 1 (nth [AV.bool true])] (G b))) ∧ (true = false → 1 ≤ 1 ∧ 1 ≤ 2 ∧ ((u2 == u2) = true → False) ∧ ((u2 == u2) = false → 2 ≤ 2 ∧ 1 ≤ 1 ∧ (∀ (hp : List AObj) (g : R.σ), true = true ∧ Does Tryd.prog R 88 [encMkt x gl, int i64 u2] hp g (ret u3) hp g) ∧ Wp Tryd.prog R 43 5 Rd.top (bodyOf Tryd.prog 84) [1, 1, 1, 0, 1, 0] (contQ Tryd.prog R 43 5 Rd.top (bodyOf Tryd.prog 84) Q [Kont.blk 0, Kont.seq [1, 1, 1, 1]]) (St.mk [(6, ref 4 0), (7, ref 5 0), (8, ref 6 0), (9, ref 7 0), (32, u3)] u1 (G b))))) (fn 101 0 (nth []) 2 (nth [fp 2 (nth [encPacks x, encR gl]), fp 1 (nth [int i64 u2])]))) ((x.l.length : Int))) ([cells false 2 (nth [encPacks x, encR gl]), cells false 1 (nth [encC l]), cells false 1 (nth [val uw]), cells false 1 (nth [val uf]), cells false 1 (nth [fn 84 0 (nth []) 5 (nth [ref 1 0, ref 0 0, ref 2 0, ref 3 0, ref 4 0])]), cells false 8 fun (a : Nat) => int i64 (p a), cells false 1 fun (a : Nat) => int i64 (x.l.length : Int), cells false 1 fun (a : Nat) => AV.bool false])) (fun _ => by kernel_rfl) ⟨(by omega), ⟨⟨rfl, (does_bool hbr (Go.Avm.Pack.c_ContainsFuncF_PackClause _ _ _ _ _ _ _ _ _ _ (by omega) (by kernel_rfl) (fun r _ => (does_sub' [0, 5, 6] 8 (fun R g => Go.Avm.Pack.c_each11 R (x) (gl) (r) (p) (x.l.length) g (by omega) (by omega) ?_ (by omega)) rfl rfl rfl (by exact ⟨⟨rfl, Nat.le_refl _, fun j hj => match j, hj with | 0, _ => (Le.refl _) | 1, _ => (Le.refl _) ⟩, ⟨⟨rfl, Nat.le_refl _, fun j hj => match j, hj with | 0, _ => (Le.refl _) | 1, _ => (Le.refl _) | 2, _ => (Le.refl _) | 3, _ => (Le.refl _) | 4, _ => (Le.refl _) | 5, _ => (Le.refl _) | 6, _ => (Le.refl _) | 7, _ => (Le.refl _) ⟩, ⟨⟨rfl, Nat.le_refl _, fun j hj => match j, hj with | 0, _ => (Le.refl _) ⟩, trivial⟩⟩⟩) (by exact ⟨by omega, ⟨by omega, ⟨by omega, trivial⟩⟩⟩) (by exact ⟨le_ren (by exact ⟨⟨⟨⟨trivial, trivial⟩, trivial⟩, trivial⟩, trivial⟩), ⟨(Le.refl _), ⟨(Le.refl _), ⟨(Le.refl _), trivial⟩⟩⟩⟩) (by exact le_unren (by exact trivial)) (by exact ⟨⟨rfl, Nat.le_refl _, fun j hj => match j, hj with | 0, _ => (Le.refl _) | 1, _ => (Le.refl _) ⟩, ⟨LeO.rflc, ⟨LeO.rflc, ⟨LeO.rflc, ⟨LeO.rflc, ⟨⟨rfl, Nat.le_refl _, fun j hj => match j, hj with | 0, _ => (Le.refl _) | 1, _ => (Le.refl _) | 2, _ => (Le.refl _) | 3, _ => (Le.refl _) | 4, _ => (Le.refl _) | 5, _ => (Le.refl _) | 6, _ => (Le.refl _) | 7, _ => (Le.refl _) ⟩, ⟨⟨rfl, Nat.le_refl _, fun j hj => match j, hj with | 0, _ => (Le.refl _) ⟩, ⟨LeO.rflc, trivial⟩⟩⟩⟩⟩⟩⟩⟩)))))⟩, ⟨(by omega), ⟨(by omega), ⟨(by omega), ⟨(fun hgd => (hwp _)), ⟨fun _ => ⟨(by omega), ⟨(fun c hc => match c, hc with | 0, _ => (by kernel_rfl) ), ?_⟩⟩, fun h => (nomatch h)⟩⟩⟩⟩⟩⟩⟩
   ·exact hl _ (by assumption)
   ·refine (retQ_le (retQ_take' 5 (AV.bool true) ([0 + (TyI.mk (TypeInfo.mk TypeDesc.bool "bool" 1 1 false 1 1 (some (Value.bool false)) true #[]).desc Tryd.prog.types[4].size Tryd.prog.types[4].bytes (cellA (ofVal (Value.bool false))) (isAggD (TypeInfo.mk TypeDesc.bool "bool" 1 1 false 1 1 (some (Value.bool false)) true #[]).desc) (flatTy Tryd.prog 4)).size ≤ 1]) (by kernel_rfl) (by exact ⟨(by decide), trivial⟩) (by omega) trivial ⟨(fun j hj => match j, hj with | 0, _ => trivial | 1, _ => trivial ), ⟨(fun j hj => match j, hj with | 0, _ => trivial ), ⟨(fun j hj => match j, hj with | 0, _ => trivial ), ⟨(fun j hj => match j, hj with | 0, _ => trivial ), ⟨(fun j hj => match j, hj with | 0, _ => ⟨trivial, ⟨⟨⟨⟨⟨trivial, (show 2 ≤ 5 by omega)⟩, (show 1 ≤ 5 by omega)⟩, (show 3 ≤ 5 by omega)⟩, (show 4 ≤ 5 by omega)⟩, (show 5 ≤ 5 by omega)⟩⟩ ), trivial⟩⟩⟩⟩⟩ (by kernel_rfl) rfl rfl) (Le.refl _))
 | false =>
   cases hwc : (wn b p x.l.length).1 with
   | false =>
     have e : eachR x gl.l l.l wn fd 0 b p = (true, (wn b p x.l.length).2) := by unfold eachR brkB; rw [hbr, hwc]; rfl
     rw [e]
     refine spec_of_wp (nt := 43) (rs := [.cell 9 4]) (k0 := 5) (by kernel_rfl) (by kernel_rfl) (by kernel_rfl) rfl ?_
     refine vcQ [] (lkL [(0, [2, 3, 4, 5, 6, 7, 8, 9]), (1, [3, 5, 6, 7, 8, 9, 20]), (2, [9]), (3, [3, 5, 6, 7, 8, 9, 26]), (4, [9]), (5, [6, 7, 8, 9, 32])]) (lkL [(1, [(2, ROrc.kcall (AV.bool false)), (7, ROrc.gcall (AV.bool false) (G (wn b p (x.l.length)).snd))]), (2, [(0, ROrc.val (Orc.obj (nth [AV.bool true])))]), (4, [(2, ROrc.gcall (AV.bool (fd (wn b p (x.l.length)).snd p).fst) (G (fd (wn b p (x.l.length)).snd p).snd)), (3, ROrc.val (Orc.obj (nth [AV.bool (fd (wn b p (x.l.length)).snd p).fst])))]), (5, [(2, ROrc.pcall (fn 101 0 (nth []) 2 (nth [fp 2 (nth [encPacks x, encR gl]), fp 1 (nth [int i64 (x.l.length : Int)])])))])]) (fun Q => (fun (u1 : List AObj) => (fun (u2 : β) => (fun (u3 : Int) => (fun (u4 : AObj) => (fun (u5 : AV) => (fun (u6 : AV) => 1 ≤ 1 ∧ (true = true ∧ Does Tryd.prog R 85 [encC l, fn 86 0 (nth []) 3 (nth [ref 0 0, ref 5 0, ref 6 0])] u1 (G b) (ret (AV.bool false)) u1 (G b)) ∧ (true = true → 1 ≤ 1) ∧ (true = true → 8 ≤ 8) ∧ (true = true → 1 ≤ 1) ∧ (true = true → VDoes Tryd.prog R uw [encPlan p, int i64 u3] u1 (G b) (ret (AV.bool false)) u1 (G u2)) ∧ (true = true → 1 ≤ 1 ∧ (∀ (c : Nat), c < 1 → nth [AV.bool true] c = over (fun (a : Nat) => AV.bool false) 0 1 (fun (x : Nat) => AV.bool true) c) ∧ Q AEx.ret (St.mk [(9, ref 7 0)] [cells false 2 (nth [encPacks x, encR gl]), cells false 1 (nth [encC l]), cells false 1 (nth [val uw]), cells false 1 (nth [val uf]), u4, cells false 8 fun (a : Nat) => int i64 (p a), cells false 1 fun (a : Nat) => int i64 u3, cells false 1 (nth [AV.bool true])] (G u2))) ∧ (true = false → 1 ≤ 1 ∧ 1 ≤ 2 ∧ ((u3 == u3) = true → 1 ≤ 1 ∧ 8 ≤ 8 ∧ VDoes Tryd.prog R uf [encPlan p] u1 (G u2) (ret u6) u1 (G (fd u2 p).snd) ∧ 1 ≤ 1 ∧ (∀ (c : Nat), c < 1 → nth [u6] c = over (fun (a : Nat) => AV.bool false) 0 1 (fun (x : Nat) => u6) c) ∧ Q AEx.ret (St.mk [(9, ref 7 0)] [cells false 2 (nth [encPacks x, encR gl]), cells false 1 (nth [encC l]), cells false 1 (nth [val uw]), cells false 1 (nth [val uf]), u4, cells false 8 fun (a : Nat) => int i64 (p a), cells false 1 fun (a : Nat) => int i64 u3, cells false 1 (nth [u6])] (G (fd u2 p).snd))) ∧ ((u3 == u3) = false → 2 ≤ 2 ∧ 1 ≤ 1 ∧ (∀ (hp : List AObj) (g : R.σ), true = true ∧ Does Tryd.prog R 88 [encMkt x gl, int i64 u3] hp g (ret u5) hp g) ∧ Wp Tryd.prog R 43 5 Rd.top (bodyOf Tryd.prog 84) [1, 1, 1, 0, 1, 0] (contQ Tryd.prog R 43 5 Rd.top (bodyOf Tryd.prog 84) Q [Kont.blk 0, Kont.seq [1, 1, 1, 1]]) (St.mk [(6, ref 4 0), (7, ref 5 0), (8, ref 6 0), (9, ref 7 0), (32, u5)] u1 (G u2))))) (AV.bool (fd u2 p).fst)) (fn 101 0 (nth []) 2 (nth [fp 2 (nth [encPacks x, encR gl]), fp 1 (nth [int i64 u3])]))) (cells false 1 (nth [fn 84 0 (nth []) 5 (nth [ref 1 0, ref 0 0, ref 2 0, ref 3 0, ref 4 0])]))) ((x.l.length : Int))) ((wn b p (x.l.length)).snd)) ([cells false 2 (nth [encPacks x, encR gl]), cells false 1 (nth [encC l]), cells false 1 (nth [val uw]), cells false 1 (nth [val uf]), cells false 1 (nth [fn 84 0 (nth []) 5 (nth [ref 1 0, ref 0 0, ref 2 0, ref 3 0, ref 4 0])]), cells false 8 fun (a : Nat) => int i64 (p a), cells false 1 fun (a : Nat) => int i64 (x.l.length : Int), cells false 1 fun (a : Nat) => AV.bool false])) (fun _ => by kernel_rfl) ⟨(by omega), ⟨⟨rfl, (does_bool hbr (Go.Avm.Pack.c_ContainsFuncF_PackClause _ _ _ _ _ _ _ _ _ _ (by omega) (by kernel_rfl) (fun r _ => (does_sub' [0, 5, 6] 8 (fun R g => Go.Avm.Pack.c_each11 R (x) (gl) (r) (p) (x.l.length) g (by omega) (by omega) ?_ (by omega)) rfl rfl rfl (by exact ⟨⟨rfl, Nat.le_refl _, fun j hj => match j, hj with | 0, _ => (Le.refl _) | 1, _ => (Le.refl _) ⟩, ⟨⟨rfl, Nat.le_refl _, fun j hj => match j, hj with | 0, _ => (Le.refl _) | 1, _ => (Le.refl _) | 2, _ => (Le.refl _) | 3, _ => (Le.refl _) | 4, _ => (Le.refl _) | 5, _ => (Le.refl _) | 6, _ => (Le.refl _) | 7, _ => (Le.refl _) ⟩, ⟨⟨rfl, Nat.le_refl _, fun j hj => match j, hj with | 0, _ => (Le.refl _) ⟩, trivial⟩⟩⟩) (by exact ⟨by omega, ⟨by omega, ⟨by omega, trivial⟩⟩⟩) (by exact ⟨le_ren (by exact ⟨⟨⟨⟨trivial, trivial⟩, trivial⟩, trivial⟩, trivial⟩), ⟨(Le.refl _), ⟨(Le.refl _), ⟨(Le.refl _), trivial⟩⟩⟩⟩) (by exact le_unren (by exact trivial)) (by exact ⟨⟨rfl, Nat.le_refl _, fun j hj => match j, hj with | 0, _ => (Le.refl _) | 1, _ => (Le.refl _) ⟩, ⟨LeO.rflc, ⟨LeO.rflc, ⟨LeO.rflc, ⟨LeO.rflc, ⟨⟨rfl, Nat.le_refl _, fun j hj => match j, hj with | 0, _ => (Le.refl _) | 1, _ => (Le.refl _) | 2, _ => (Le.refl _) | 3, _ => (Le.refl _) | 4, _ => (Le.refl _) | 5, _ => (Le.refl _) | 6, _ => (Le.refl _) | 7, _ => (Le.refl _) ⟩, ⟨⟨rfl, Nat.le_refl _, fun j hj => match j, hj with | 0, _ => (Le.refl _) ⟩, ⟨LeO.rflc, trivial⟩⟩⟩⟩⟩⟩⟩⟩)))))⟩, ⟨(by omega), ⟨(by omega), ⟨(by omega), ⟨(fun hgd => (vdoes_bool hwc (hwp _))), ⟨fun _ => ⟨(by omega), ⟨(fun c hc => match c, hc with | 0, _ => (by kernel_rfl) ), ?_⟩⟩, fun h => (nomatch h)⟩⟩⟩⟩⟩⟩⟩
     ·exact hl _ (by assumption)
     ·refine (retQ_le (retQ_take' 5 (AV.bool true) ([0 + (TyI.mk (TypeInfo.mk TypeDesc.bool "bool" 1 1 false 1 1 (some (Value.bool false)) true #[]).desc Tryd.prog.types[4].size Tryd.prog.types[4].bytes (cellA (ofVal (Value.bool false))) (isAggD (TypeInfo.mk TypeDesc.bool "bool" 1 1 false 1 1 (some (Value.bool false)) true #[]).desc) (flatTy Tryd.prog 4)).size ≤ 1]) (by kernel_rfl) (by exact ⟨(by decide), trivial⟩) (by omega) trivial ⟨(fun j hj => match j, hj with | 0, _ => trivial | 1, _ => trivial ), ⟨(fun j hj => match j, hj with | 0, _ => trivial ), ⟨(fun j hj => match j, hj with | 0, _ => trivial ), ⟨(fun j hj => match j, hj with | 0, _ => trivial ), ⟨(fun j hj => match j, hj with | 0, _ => ⟨trivial, ⟨⟨⟨⟨⟨trivial, (show 2 ≤ 5 by omega)⟩, (show 1 ≤ 5 by omega)⟩, (show 3 ≤ 5 by omega)⟩, (show 4 ≤ 5 by omega)⟩, (show 5 ≤ 5 by omega)⟩⟩ ), trivial⟩⟩⟩⟩⟩ (by kernel_rfl) rfl rfl) (Le.refl _))
   | true =>
     have e : eachR x gl.l l.l wn fd 0 b p = fd (wn b p x.l.length).2 p := by unfold eachR brkB; rw [hbr, hwc]; rfl
     rw [e]
     refine spec_of_wp (nt := 43) (rs := [.cell 9 4]) (k0 := 5) (by kernel_rfl) (by kernel_rfl) (by kernel_rfl) rfl ?_
     refine vcQ [] (lkL [(0, [2, 3, 4, 5, 6, 7, 8, 9]), (1, [3, 5, 6, 7, 8, 9, 20]), (2, [9]), (3, [3, 5, 6, 7, 8, 9, 26]), (4, [9]), (5, [6, 7, 8, 9, 32])]) (lkL [(1, [(2, ROrc.kcall (AV.bool false)), (7, ROrc.gcall (AV.bool true) (G (wn b p (x.l.length)).snd))]), (2, [(0, ROrc.val (Orc.obj (nth [AV.bool true])))]), (4, [(2, ROrc.gcall (AV.bool (fd (wn b p (x.l.length)).snd p).fst) (G (fd (wn b p (x.l.length)).snd p).snd)), (3, ROrc.val (Orc.obj (nth [AV.bool (fd (wn b p (x.l.length)).snd p).fst])))]), (5, [(2, ROrc.pcall (fn 101 0 (nth []) 2 (nth [fp 2 (nth [encPacks x, encR gl]), fp 1 (nth [int i64 (x.l.length : Int)])])))])]) (fun Q => (fun (u1 : List AObj) => (fun (u2 : β) => (fun (u3 : Int) => (fun (u4 : AObj) => (fun (u5 : AV) => (fun (u6 : AV) => 1 ≤ 1 ∧ (true = true ∧ Does Tryd.prog R 85 [encC l, fn 86 0 (nth []) 3 (nth [ref 0 0, ref 5 0, ref 6 0])] u1 (G b) (ret (AV.bool false)) u1 (G b)) ∧ (true = true → 1 ≤ 1) ∧ (true = true → 8 ≤ 8) ∧ (true = true → 1 ≤ 1) ∧ (true = true → VDoes Tryd.prog R uw [encPlan p, int i64 u3] u1 (G b) (ret (AV.bool true)) u1 (G u2)) ∧ (false = true → 1 ≤ 1 ∧ (∀ (c : Nat), c < 1 → nth [AV.bool true] c = over (fun (a : Nat) => AV.bool false) 0 1 (fun (x : Nat) => AV.bool true) c) ∧ Q AEx.ret (St.mk [(9, ref 7 0)] [cells false 2 (nth [encPacks x, encR gl]), cells false 1 (nth [encC l]), cells false 1 (nth [val uw]), cells false 1 (nth [val uf]), u4, cells false 8 fun (a : Nat) => int i64 (p a), cells false 1 fun (a : Nat) => int i64 u3, cells false 1 (nth [AV.bool true])] (G u2))) ∧ (false = false → 1 ≤ 1 ∧ 1 ≤ 2 ∧ ((u3 == u3) = true → 1 ≤ 1 ∧ 8 ≤ 8 ∧ VDoes Tryd.prog R uf [encPlan p] u1 (G u2) (ret u6) u1 (G (fd u2 p).snd) ∧ 1 ≤ 1 ∧ (∀ (c : Nat), c < 1 → nth [u6] c = over (fun (a : Nat) => AV.bool false) 0 1 (fun (x : Nat) => u6) c) ∧ Q AEx.ret (St.mk [(9, ref 7 0)] [cells false 2 (nth [encPacks x, encR gl]), cells false 1 (nth [encC l]), cells false 1 (nth [val uw]), cells false 1 (nth [val uf]), u4, cells false 8 fun (a : Nat) => int i64 (p a), cells false 1 fun (a : Nat) => int i64 u3, cells false 1 (nth [u6])] (G (fd u2 p).snd))) ∧ ((u3 == u3) = false → 2 ≤ 2 ∧ 1 ≤ 1 ∧ (∀ (hp : List AObj) (g : R.σ), true = true ∧ Does Tryd.prog R 88 [encMkt x gl, int i64 u3] hp g (ret u5) hp g) ∧ Wp Tryd.prog R 43 5 Rd.top (bodyOf Tryd.prog 84) [1, 1, 1, 0, 1, 0] (contQ Tryd.prog R 43 5 Rd.top (bodyOf Tryd.prog 84) Q [Kont.blk 0, Kont.seq [1, 1, 1, 1]]) (St.mk [(6, ref 4 0), (7, ref 5 0), (8, ref 6 0), (9, ref 7 0), (32, u5)] u1 (G u2))))) (AV.bool (fd u2 p).fst)) (fn 101 0 (nth []) 2 (nth [fp 2 (nth [encPacks x, encR gl]), fp 1 (nth [int i64 u3])]))) (cells false 1 (nth [fn 84 0 (nth []) 5 (nth [ref 1 0, ref 0 0, ref 2 0, ref 3 0, ref 4 0])]))) ((x.l.length : Int))) ((wn b p (x.l.length)).snd)) ([cells false 2 (nth [encPacks x, encR gl]), cells false 1 (nth [encC l]), cells false 1 (nth [val uw]), cells false 1 (nth [val uf]), cells false 1 (nth [fn 84 0 (nth []) 5 (nth [ref 1 0, ref 0 0, ref 2 0, ref 3 0, ref 4 0])]), cells false 8 fun (a : Nat) => int i64 (p a), cells false 1 fun (a : Nat) => int i64 (x.l.length : Int), cells false 1 fun (a : Nat) => AV.bool false])) (fun _ => by kernel_rfl) ⟨(by omega), ⟨⟨rfl, (does_bool hbr (Go.Avm.Pack.c_ContainsFuncF_PackClause _ _ _ _ _ _ _ _ _ _ (by omega) (by kernel_rfl) (fun r _ => (does_sub' [0, 5, 6] 8 (fun R g => Go.Avm.Pack.c_each11 R (x) (gl) (r) (p) (x.l.length) g (by omega) (by omega) ?_ (by omega)) rfl rfl rfl (by exact ⟨⟨rfl, Nat.le_refl _, fun j hj => match j, hj with | 0, _ => (Le.refl _) | 1, _ => (Le.refl _) ⟩, ⟨⟨rfl, Nat.le_refl _, fun j hj => match j, hj with | 0, _ => (Le.refl _) | 1, _ => (Le.refl _) | 2, _ => (Le.refl _) | 3, _ => (Le.refl _) | 4, _ => (Le.refl _) | 5, _ => (Le.refl _) | 6, _ => (Le.refl _) | 7, _ => (Le.refl _) ⟩, ⟨⟨rfl, Nat.le_refl _, fun j hj => match j, hj with | 0, _ => (Le.refl _) ⟩, trivial⟩⟩⟩) (by exact ⟨by omega, ⟨by omega, ⟨by omega, trivial⟩⟩⟩) (by exact ⟨le_ren (by exact ⟨⟨⟨⟨trivial, trivial⟩, trivial⟩, trivial⟩, trivial⟩), ⟨(Le.refl _), ⟨(Le.refl _), ⟨(Le.refl _), trivial⟩⟩⟩⟩) (by exact le_unren (by exact trivial)) (by exact ⟨⟨rfl, Nat.le_refl _, fun j hj => match j, hj with | 0, _ => (Le.refl _) | 1, _ => (Le.refl _) ⟩, ⟨LeO.rflc, ⟨LeO.rflc, ⟨LeO.rflc, ⟨LeO.rflc, ⟨⟨rfl, Nat.le_refl _, fun j hj => match j, hj with | 0, _ => (Le.refl _) | 1, _ => (Le.refl _) | 2, _ => (Le.refl _) | 3, _ => (Le.refl _) | 4, _ => (Le.refl _) | 5, _ => (Le.refl _) | 6, _ => (Le.refl _) | 7, _ => (Le.refl _) ⟩, ⟨⟨rfl, Nat.le_refl _, fun j hj => match j, hj with | 0, _ => (Le.refl _) ⟩, ⟨LeO.rflc, trivial⟩⟩⟩⟩⟩⟩⟩⟩)))))⟩, ⟨(by omega), ⟨(by omega), ⟨(by omega), ⟨(fun hgd => (vdoes_bool hwc (hwp _))), ⟨fun h => (nomatch h), fun _ => ⟨(by omega), ⟨(by omega), ⟨fun c1 => have c1 : (x.l.length : Int) = (x.l.length : Int) := (beq_iff_eq.mp c1); ⟨(by omega), ⟨(by omega), ⟨(hfp _), ⟨(by omega), ⟨(fun c hc => match c, hc with | 0, _ => (by kernel_rfl) ), ?_⟩⟩⟩⟩⟩, fun c1 => have c1 : ¬(x.l.length : Int) = (x.l.length : Int) := (beq_eq_false_iff_ne.mp c1); ⟨(by omega), ⟨(by omega), ⟨(fun _ _ => ⟨rfl, (Go.Avm.Pack.c_choices _ _ _ _ _ _)⟩), ?_⟩⟩⟩⟩⟩⟩⟩⟩⟩⟩⟩⟩⟩
     ·exact hl _ (by assumption)
     ·refine (retQ_le (retQ_take' 5 (AV.bool (fd (wn b p (x.l.length)).snd p).fst) ([0 + (TyI.mk (TypeInfo.mk TypeDesc.bool "bool" 1 1 false 1 1 (some (Value.bool false)) true #[]).desc Tryd.prog.types[4].size Tryd.prog.types[4].bytes (cellA (ofVal (Value.bool false))) (isAggD (TypeInfo.mk TypeDesc.bool "bool" 1 1 false 1 1 (some (Value.bool false)) true #[]).desc) (flatTy Tryd.prog 4)).size ≤ 1]) (by kernel_rfl) (by exact ⟨(by decide), trivial⟩) (by omega) trivial ⟨(fun j hj => match j, hj with | 0, _ => trivial | 1, _ => trivial ), ⟨(fun j hj => match j, hj with | 0, _ => trivial ), ⟨(fun j hj => match j, hj with | 0, _ => trivial ), ⟨(fun j hj => match j, hj with | 0, _ => trivial ), ⟨(fun j hj => match j, hj with | 0, _ => ⟨trivial, ⟨⟨⟨⟨⟨trivial, (show 2 ≤ 5 by omega)⟩, (show 1 ≤ 5 by omega)⟩, (show 3 ≤ 5 by omega)⟩, (show 4 ≤ 5 by omega)⟩, (show 5 ≤ 5 by omega)⟩⟩ ), trivial⟩⟩⟩⟩⟩ (by kernel_rfl) rfl rfl) (Le.refl _))
     ·omega
theorem each1_succ {β : Type} (x : Ix) (gl : KL Rng) (l : KL Clause) (uw uf : Value) (hx : formedB x = true) (hgl : ∀ r ∈ gl.l, 0 ≤ r.pack ∧ r.pack < x.l.length) (hl : ∀ c ∈ l.l, thereC x gl.l c) (hll : l.l.length < 1000000) (I : β → Prop) (wn : β → (Nat → Int) → Nat → Bool × β) (fd : β → (Nat → Int) → Bool × β) (n m : Nat) (hm : m + (n + 1) = x.l.length)
  (ih : ∀ (R : Res) (G : β → R.σ), EachH x R G I wn fd uw uf → ∀ b p, I b → inQ x p (m + 1) → Does Tryd.prog R 84 [encPlan p, .int .i64 (m + 1), .ref 1 0, .ref 0 0, .ref 2 0, .ref 3 0, .ref 4 0] (hpE x gl l uw uf) (G b) (.ret (.bool (eachR x gl.l l.l wn fd n b p).1)) (hpE x gl l uw uf) (G (eachR x gl.l l.l wn fd n b p).2))
  (R : Res) (G : β → R.σ) (hE : EachH x R G I wn fd uw uf) (b : β) (p : Nat → Int) (hb : I b) (hp : inQ x p m) :
  Does Tryd.prog R 84 [encPlan p, .int .i64 m, .ref 1 0, .ref 0 0, .ref 2 0, .ref 3 0, .ref 4 0] (hpE x gl l uw uf) (G b) (.ret (.bool (eachR x gl.l l.l wn fd (n + 1) b p).1)) (hpE x gl l uw uf) (G (eachR x gl.l l.l wn fd (n + 1) b p).2) := by
 have h8 := (formed_le hx).2
 have em : x.l.length - (n + 1) = m := by omega
 have hwp := hE.w b p m hb hp (by omega)
 have h5 := formed_five hx (show m < x.l.length by omega)
 cases hbr : l.l.any (fun c => brokenB x gl.l c p m) with
 | true =>
   have e : eachR x gl.l l.l wn fd (n + 1) b p = (true, b) := by unfold eachR brkB; rw [em, hbr]; rfl
   rw [e]
   refine spec_of_wp (nt := 43) (rs := [.cell 9 4]) (k0 := 5) (by kernel_rfl) (by kernel_rfl) (by kernel_rfl) rfl ?_
   refine vcQ [] (lkL [(0, [2, 3, 4, 5, 6, 7, 8, 9]), (1, [3, 5, 6, 7, 8, 9, 20]), (2, [9]), (3, [3, 5, 6, 7, 8, 9, 26]), (4, [9]), (5, [6, 7, 8, 9, 32])]) (lkL [(1, [(2, ROrc.kcall (AV.bool true)), (7, ROrc.gcall (AV.bool (wn b p m).fst) (G (wn b p m).snd))]), (2, [(0, ROrc.val (Orc.obj (nth [AV.bool true])))]), (5, [(2, ROrc.pcall (fn 101 0 (nth []) 2 (nth [fp 2 (nth [encPacks x, encR gl]), fp 1 (nth [int i64 (m : Int)])])))])]) (fun Q => (fun (u1 : List AObj) => (fun (u2 : AV) => 1 ≤ 1 ∧ (true = true ∧ Does Tryd.prog R 85 [encC l, fn 86 0 (nth []) 3 (nth [ref 0 0, ref 5 0, ref 6 0])] u1 (G b) (ret (AV.bool true)) u1 (G b)) ∧ (false = true → 1 ≤ 1) ∧ (false = true → 8 ≤ 8) ∧ (false = true → 1 ≤ 1) ∧ (false = true → VDoes Tryd.prog R uw [encPlan p, int i64 (m : Int)] u1 (G b) (ret (AV.bool (wn b p m).fst)) u1 (G (wn b p m).snd)) ∧ (true = true → 1 ≤ 1 ∧ (∀ (c : Nat), c < 1 → nth [AV.bool true] c = over (fun (a : Nat) => AV.bool false) 0 1 (fun (x : Nat) => AV.bool true) c) ∧ Q AEx.ret (St.mk [(9, ref 7 0)] [cells false 2 (nth [encPacks x, encR gl]), cells false 1 (nth [encC l]), cells false 1 (nth [val uw]), cells false 1 (nth [val uf]), cells false 1 (nth [fn 84 0 (nth []) 5 (nth [ref 1 0, ref 0 0, ref 2 0, ref 3 0, ref 4 0])]), cells false 8 fun (a : Nat) => int i64 (p a), cells false 1 fun (a : Nat) => int i64 (m : Int), cells false 1 (nth [AV.bool true])] (G b))) ∧ (true = false → 1 ≤ 1 ∧ 1 ≤ 2 ∧ (((m : Int) == (x.l.length : Int)) = true → False) ∧ (((m : Int) == (x.l.length : Int)) = false → 2 ≤ 2 ∧ 1 ≤ 1 ∧ (∀ (hp : List AObj) (g : R.σ), true = true ∧ Does Tryd.prog R 88 [encMkt x gl, int i64 (m : Int)] hp g (ret u2) hp g) ∧ Wp Tryd.prog R 43 5 Rd.top (bodyOf Tryd.prog 84) [1, 1, 1, 0, 1, 0] (contQ Tryd.prog R 43 5 Rd.top (bodyOf Tryd.prog 84) Q [Kont.blk 0, Kont.seq [1, 1, 1, 1]]) (St.mk [(6, ref 4 0), (7, ref 5 0), (8, ref 6 0), (9, ref 7 0), (32, u2)] u1 (G b))))) (fn 101 0 (nth []) 2 (nth [fp 2 (nth [encPacks x, encR gl]), fp 1 (nth [int i64 (m : Int)])]))) ([cells false 2 (nth [encPacks x, encR gl]), cells false 1 (nth [encC l]), cells false 1 (nth [val uw]), cells false 1 (nth [val uf]), cells false 1 (nth [fn 84 0 (nth []) 5 (nth [ref 1 0, ref 0 0, ref 2 0, ref 3 0, ref 4 0])]), cells false 8 fun (a : Nat) => int i64 (p a), cells false 1 fun (a : Nat) => int i64 (m : Int), cells false 1 fun (a : Nat) => AV.bool false])) (fun _ => by kernel_rfl) ⟨(by omega), ⟨⟨rfl, (does_bool hbr (Go.Avm.Pack.c_ContainsFuncF_PackClause _ _ _ _ _ _ _ _ _ _ (by omega) (by kernel_rfl) (fun r _ => (does_sub' [0, 5, 6] 8 (fun R g => Go.Avm.Pack.c_each11 R (x) (gl) (r) (p) (m) g (by omega) (by omega) ?_ (by omega)) rfl rfl rfl (by exact ⟨⟨rfl, Nat.le_refl _, fun j hj => match j, hj with | 0, _ => (Le.refl _) | 1, _ => (Le.refl _) ⟩, ⟨⟨rfl, Nat.le_refl _, fun j hj => match j, hj with | 0, _ => (Le.refl _) | 1, _ => (Le.refl _) | 2, _ => (Le.refl _) | 3, _ => (Le.refl _) | 4, _ => (Le.refl _) | 5, _ => (Le.refl _) | 6, _ => (Le.refl _) | 7, _ => (Le.refl _) ⟩, ⟨⟨rfl, Nat.le_refl _, fun j hj => match j, hj with | 0, _ => (Le.refl _) ⟩, trivial⟩⟩⟩) (by exact ⟨by omega, ⟨by omega, ⟨by omega, trivial⟩⟩⟩) (by exact ⟨le_ren (by exact ⟨⟨⟨⟨trivial, trivial⟩, trivial⟩, trivial⟩, trivial⟩), ⟨(Le.refl _), ⟨(Le.refl _), ⟨(Le.refl _), trivial⟩⟩⟩⟩) (by exact le_unren (by exact trivial)) (by exact ⟨⟨rfl, Nat.le_refl _, fun j hj => match j, hj with | 0, _ => (Le.refl _) | 1, _ => (Le.refl _) ⟩, ⟨LeO.rflc, ⟨LeO.rflc, ⟨LeO.rflc, ⟨LeO.rflc, ⟨⟨rfl, Nat.le_refl _, fun j hj => match j, hj with | 0, _ => (Le.refl _) | 1, _ => (Le.refl _) | 2, _ => (Le.refl _) | 3, _ => (Le.refl _) | 4, _ => (Le.refl _) | 5, _ => (Le.refl _) | 6, _ => (Le.refl _) | 7, _ => (Le.refl _) ⟩, ⟨⟨rfl, Nat.le_refl _, fun j hj => match j, hj with | 0, _ => (Le.refl _) ⟩, ⟨LeO.rflc, trivial⟩⟩⟩⟩⟩⟩⟩⟩)))))⟩, ⟨(by omega), ⟨(by omega), ⟨(by omega), ⟨(fun hgd => (hwp _)), ⟨fun _ => ⟨(by omega), ⟨(fun c hc => match c, hc with | 0, _ => (by kernel_rfl) ), ?_⟩⟩, fun h => (nomatch h)⟩⟩⟩⟩⟩⟩⟩
   ·exact hl _ (by assumption)
   ·refine (retQ_le (retQ_take' 5 (AV.bool true) ([0 + (TyI.mk (TypeInfo.mk TypeDesc.bool "bool" 1 1 false 1 1 (some (Value.bool false)) true #[]).desc Tryd.prog.types[4].size Tryd.prog.types[4].bytes (cellA (ofVal (Value.bool false))) (isAggD (TypeInfo.mk TypeDesc.bool "bool" 1 1 false 1 1 (some (Value.bool false)) true #[]).desc) (flatTy Tryd.prog 4)).size ≤ 1]) (by kernel_rfl) (by exact ⟨(by decide), trivial⟩) (by omega) trivial ⟨(fun j hj => match j, hj with | 0, _ => trivial | 1, _ => trivial ), ⟨(fun j hj => match j, hj with | 0, _ => trivial ), ⟨(fun j hj => match j, hj with | 0, _ => trivial ), ⟨(fun j hj => match j, hj with | 0, _ => trivial ), ⟨(fun j hj => match j, hj with | 0, _ => ⟨trivial, ⟨⟨⟨⟨⟨trivial, (show 2 ≤ 5 by omega)⟩, (show 1 ≤ 5 by omega)⟩, (show 3 ≤ 5 by omega)⟩, (show 4 ≤ 5 by omega)⟩, (show 5 ≤ 5 by omega)⟩⟩ ), trivial⟩⟩⟩⟩⟩ (by kernel_rfl) rfl rfl) (Le.refl _))
 | false =>
   cases hwc : (wn b p m).1 with
   | false =>
     have hne : ((m : Int) == (x.l.length : Int)) = false := by
      rw [beq_eq_false_iff_ne]; omega
     have e : eachR x gl.l l.l wn fd (n + 1) b p = (true, (wn b p m).2) := by unfold eachR brkB; rw [em, hbr, hwc]; rfl
     rw [e]
     refine spec_of_wp (nt := 43) (rs := [.cell 9 4]) (k0 := 5) (by kernel_rfl) (by kernel_rfl) (by kernel_rfl) rfl ?_
     refine vcQ [] (lkL [(0, [2, 3, 4, 5, 6, 7, 8, 9]), (1, [3, 5, 6, 7, 8, 9, 20]), (2, [9]), (3, [3, 5, 6, 7, 8, 9, 26]), (4, [9]), (5, [6, 7, 8, 9, 32])]) (lkL [(1, [(2, ROrc.kcall (AV.bool false)), (7, ROrc.gcall (AV.bool false) (G (wn b p m).snd))]), (2, [(0, ROrc.val (Orc.obj (nth [AV.bool true])))]), (5, [(2, ROrc.pcall (fn 101 0 (nth []) 2 (nth [fp 2 (nth [encPacks x, encR gl]), fp 1 (nth [int i64 (m : Int)])])))])]) (fun Q => (fun (u1 : List AObj) => (fun (u2 : AV) => 1 ≤ 1 ∧ (true = true ∧ Does Tryd.prog R 85 [encC l, fn 86 0 (nth []) 3 (nth [ref 0 0, ref 5 0, ref 6 0])] u1 (G b) (ret (AV.bool false)) u1 (G b)) ∧ (true = true → 1 ≤ 1) ∧ (true = true → 8 ≤ 8) ∧ (true = true → 1 ≤ 1) ∧ (true = true → VDoes Tryd.prog R uw [encPlan p, int i64 (m : Int)] u1 (G b) (ret (AV.bool false)) u1 (G (wn b p m).snd)) ∧ (true = true → 1 ≤ 1 ∧ (∀ (c : Nat), c < 1 → nth [AV.bool true] c = over (fun (a : Nat) => AV.bool false) 0 1 (fun (x : Nat) => AV.bool true) c) ∧ Q AEx.ret (St.mk [(9, ref 7 0)] [cells false 2 (nth [encPacks x, encR gl]), cells false 1 (nth [encC l]), cells false 1 (nth [val uw]), cells false 1 (nth [val uf]), cells false 1 (nth [fn 84 0 (nth []) 5 (nth [ref 1 0, ref 0 0, ref 2 0, ref 3 0, ref 4 0])]), cells false 8 fun (a : Nat) => int i64 (p a), cells false 1 fun (a : Nat) => int i64 (m : Int), cells false 1 (nth [AV.bool true])] (G (wn b p m).snd))) ∧ (true = false → 1 ≤ 1 ∧ 1 ≤ 2 ∧ (((m : Int) == (x.l.length : Int)) = true → False) ∧ (((m : Int) == (x.l.length : Int)) = false → 2 ≤ 2 ∧ 1 ≤ 1 ∧ (∀ (hp : List AObj) (g : R.σ), true = true ∧ Does Tryd.prog R 88 [encMkt x gl, int i64 (m : Int)] hp g (ret u2) hp g) ∧ Wp Tryd.prog R 43 5 Rd.top (bodyOf Tryd.prog 84) [1, 1, 1, 0, 1, 0] (contQ Tryd.prog R 43 5 Rd.top (bodyOf Tryd.prog 84) Q [Kont.blk 0, Kont.seq [1, 1, 1, 1]]) (St.mk [(6, ref 4 0), (7, ref 5 0), (8, ref 6 0), (9, ref 7 0), (32, u2)] u1 (G (wn b p m).snd))))) (fn 101 0 (nth []) 2 (nth [fp 2 (nth [encPacks x, encR gl]), fp 1 (nth [int i64 (m : Int)])]))) ([cells false 2 (nth [encPacks x, encR gl]), cells false 1 (nth [encC l]), cells false 1 (nth [val uw]), cells false 1 (nth [val uf]), cells false 1 (nth [fn 84 0 (nth []) 5 (nth [ref 1 0, ref 0 0, ref 2 0, ref 3 0, ref 4 0])]), cells false 8 fun (a : Nat) => int i64 (p a), cells false 1 fun (a : Nat) => int i64 (m : Int), cells false 1 fun (a : Nat) => AV.bool false])) (fun _ => by kernel_rfl) ⟨(by omega), ⟨⟨rfl, (does_bool hbr (Go.Avm.Pack.c_ContainsFuncF_PackClause _ _ _ _ _ _ _ _ _ _ (by omega) (by kernel_rfl) (fun r _ => (does_sub' [0, 5, 6] 8 (fun R g => Go.Avm.Pack.c_each11 R (x) (gl) (r) (p) (m) g (by omega) (by omega) ?_ (by omega)) rfl rfl rfl (by exact ⟨⟨rfl, Nat.le_refl _, fun j hj => match j, hj with | 0, _ => (Le.refl _) | 1, _ => (Le.refl _) ⟩, ⟨⟨rfl, Nat.le_refl _, fun j hj => match j, hj with | 0, _ => (Le.refl _) | 1, _ => (Le.refl _) | 2, _ => (Le.refl _) | 3, _ => (Le.refl _) | 4, _ => (Le.refl _) | 5, _ => (Le.refl _) | 6, _ => (Le.refl _) | 7, _ => (Le.refl _) ⟩, ⟨⟨rfl, Nat.le_refl _, fun j hj => match j, hj with | 0, _ => (Le.refl _) ⟩, trivial⟩⟩⟩) (by exact ⟨by omega, ⟨by omega, ⟨by omega, trivial⟩⟩⟩) (by exact ⟨le_ren (by exact ⟨⟨⟨⟨trivial, trivial⟩, trivial⟩, trivial⟩, trivial⟩), ⟨(Le.refl _), ⟨(Le.refl _), ⟨(Le.refl _), trivial⟩⟩⟩⟩) (by exact le_unren (by exact trivial)) (by exact ⟨⟨rfl, Nat.le_refl _, fun j hj => match j, hj with | 0, _ => (Le.refl _) | 1, _ => (Le.refl _) ⟩, ⟨LeO.rflc, ⟨LeO.rflc, ⟨LeO.rflc, ⟨LeO.rflc, ⟨⟨rfl, Nat.le_refl _, fun j hj => match j, hj with | 0, _ => (Le.refl _) | 1, _ => (Le.refl _) | 2, _ => (Le.refl _) | 3, _ => (Le.refl _) | 4, _ => (Le.refl _) | 5, _ => (Le.refl _) | 6, _ => (Le.refl _) | 7, _ => (Le.refl _) ⟩, ⟨⟨rfl, Nat.le_refl _, fun j hj => match j, hj with | 0, _ => (Le.refl _) ⟩, ⟨LeO.rflc, trivial⟩⟩⟩⟩⟩⟩⟩⟩)))))⟩, ⟨(by omega), ⟨(by omega), ⟨(by omega), ⟨(fun hgd => (vdoes_bool hwc (hwp _))), ⟨fun _ => ⟨(by omega), ⟨(fun c hc => match c, hc with | 0, _ => (by kernel_rfl) ), ?_⟩⟩, fun h => (nomatch h)⟩⟩⟩⟩⟩⟩⟩
     ·exact hl _ (by assumption)
     ·refine (retQ_le (retQ_take' 5 (AV.bool true) ([0 + (TyI.mk (TypeInfo.mk TypeDesc.bool "bool" 1 1 false 1 1 (some (Value.bool false)) true #[]).desc Tryd.prog.types[4].size Tryd.prog.types[4].bytes (cellA (ofVal (Value.bool false))) (isAggD (TypeInfo.mk TypeDesc.bool "bool" 1 1 false 1 1 (some (Value.bool false)) true #[]).desc) (flatTy Tryd.prog 4)).size ≤ 1]) (by kernel_rfl) (by exact ⟨(by decide), trivial⟩) (by omega) trivial ⟨(fun j hj => match j, hj with | 0, _ => trivial | 1, _ => trivial ), ⟨(fun j hj => match j, hj with | 0, _ => trivial ), ⟨(fun j hj => match j, hj with | 0, _ => trivial ), ⟨(fun j hj => match j, hj with | 0, _ => trivial ), ⟨(fun j hj => match j, hj with | 0, _ => ⟨trivial, ⟨⟨⟨⟨⟨trivial, (show 2 ≤ 5 by omega)⟩, (show 1 ≤ 5 by omega)⟩, (show 3 ≤ 5 by omega)⟩, (show 4 ≤ 5 by omega)⟩, (show 5 ≤ 5 by omega)⟩⟩ ), trivial⟩⟩⟩⟩⟩ (by kernel_rfl) rfl rfl) (Le.refl _))
   | true =>
     obtain ⟨f, hf⟩ : ∃ f : β → Int → Bool × β, f = fun b v => eachR x gl.l l.l wn fd n b (updP p m v) := ⟨_, rfl⟩
     obtain ⟨N, hN⟩ : ∃ N, (x.l.getD m default).l.length = N := ⟨_, rfl⟩
     obtain ⟨b1, hb1⟩ : ∃ b1, (wn b p m).2 = b1 := ⟨_, rfl⟩
     have e : eachR x gl.l l.l wn fd (n + 1) b p = goN f (itemC N) (N + 1) b1 := by unfold eachR brkB; rw [em, hbr, hwc, hN, hb1, hf]; rfl
     have hI1 : I b1 := by rw [← hb1]; exact hE.wI b p m hb hp (by omega)
     have hIK : ∀ k, k ≤ N + 1 → I (bK f (itemC N) b1 k) := bK_I hI1 (fun b k hb' hk => by
      have := itemC_in hk
      rw [hf]
      exact eachR_I hE.wI hE.fI n b _ hb' (by omega) (by have h1 := inQ_upd hp this.1 (by rw [hN]; exact this.2); rwa [show x.l.length - n = m + 1 by omega]))
     rw [e]
     have hne : ((m : Int) == (x.l.length : Int)) = false := by
      rw [beq_eq_false_iff_ne]; omega
     refine spec_of_wp (nt := 43) (rs := [.cell 9 4]) (k0 := 5) (by kernel_rfl) (by kernel_rfl) (by kernel_rfl) rfl ?_
     refine vcQ [] (lkL [(0, [2, 3, 4, 5, 6, 7, 8, 9]), (1, [3, 5, 6, 7, 8, 9, 20]), (2, [9]), (3, [3, 5, 6, 7, 8, 9, 26]), (4, [9]), (5, [6, 7, 8, 9, 32])]) (lkL [(1, [(2, ROrc.kcall (AV.bool false)), (7, ROrc.gcall (AV.bool true) (G (wn b p m).snd))]), (2, [(0, ROrc.val (Orc.obj (nth [AV.bool true])))]), (5, [(2, ROrc.pcall (fn 101 0 (nth []) 2 (nth [fp 2 (nth [encPacks x, encR gl]), fp 1 (nth [int i64 (m : Int)])])))])]) (fun Q => (fun (u1 : List AObj) => (fun (u2 : AV) => 1 ≤ 1 ∧ (true = true ∧ Does Tryd.prog R 85 [encC l, fn 86 0 (nth []) 3 (nth [ref 0 0, ref 5 0, ref 6 0])] u1 (G b) (ret (AV.bool false)) u1 (G b)) ∧ (true = true → 1 ≤ 1) ∧ (true = true → 8 ≤ 8) ∧ (true = true → 1 ≤ 1) ∧ (true = true → VDoes Tryd.prog R uw [encPlan p, int i64 (m : Int)] u1 (G b) (ret (AV.bool true)) u1 (G (wn b p m).snd)) ∧ (false = true → 1 ≤ 1 ∧ (∀ (c : Nat), c < 1 → nth [AV.bool true] c = over (fun (a : Nat) => AV.bool false) 0 1 (fun (x : Nat) => AV.bool true) c) ∧ Q AEx.ret (St.mk [(9, ref 7 0)] [cells false 2 (nth [encPacks x, encR gl]), cells false 1 (nth [encC l]), cells false 1 (nth [val uw]), cells false 1 (nth [val uf]), cells false 1 (nth [fn 84 0 (nth []) 5 (nth [ref 1 0, ref 0 0, ref 2 0, ref 3 0, ref 4 0])]), cells false 8 fun (a : Nat) => int i64 (p a), cells false 1 fun (a : Nat) => int i64 (m : Int), cells false 1 (nth [AV.bool true])] (G (wn b p m).snd))) ∧ (false = false → 1 ≤ 1 ∧ 1 ≤ 2 ∧ (((m : Int) == (x.l.length : Int)) = true → False) ∧ (((m : Int) == (x.l.length : Int)) = false → 2 ≤ 2 ∧ 1 ≤ 1 ∧ (∀ (hp : List AObj) (g : R.σ), true = true ∧ Does Tryd.prog R 88 [encMkt x gl, int i64 (m : Int)] hp g (ret u2) hp g) ∧ Wp Tryd.prog R 43 5 Rd.top (bodyOf Tryd.prog 84) [1, 1, 1, 0, 1, 0] (contQ Tryd.prog R 43 5 Rd.top (bodyOf Tryd.prog 84) Q [Kont.blk 0, Kont.seq [1, 1, 1, 1]]) (St.mk [(6, ref 4 0), (7, ref 5 0), (8, ref 6 0), (9, ref 7 0), (32, u2)] u1 (G (wn b p m).snd))))) (fn 101 0 (nth []) 2 (nth [fp 2 (nth [encPacks x, encR gl]), fp 1 (nth [int i64 (m : Int)])]))) ([cells false 2 (nth [encPacks x, encR gl]), cells false 1 (nth [encC l]), cells false 1 (nth [val uw]), cells false 1 (nth [val uf]), cells false 1 (nth [fn 84 0 (nth []) 5 (nth [ref 1 0, ref 0 0, ref 2 0, ref 3 0, ref 4 0])]), cells false 8 fun (a : Nat) => int i64 (p a), cells false 1 fun (a : Nat) => int i64 (m : Int), cells false 1 fun (a : Nat) => AV.bool false])) (fun _ => by kernel_rfl) ⟨(by omega), ⟨⟨rfl, (does_bool hbr (Go.Avm.Pack.c_ContainsFuncF_PackClause _ _ _ _ _ _ _ _ _ _ (by omega) (by kernel_rfl) (fun r _ => (does_sub' [0, 5, 6] 8 (fun R g => Go.Avm.Pack.c_each11 R (x) (gl) (r) (p) (m) g (by omega) (by omega) ?_ (by omega)) rfl rfl rfl (by exact ⟨⟨rfl, Nat.le_refl _, fun j hj => match j, hj with | 0, _ => (Le.refl _) | 1, _ => (Le.refl _) ⟩, ⟨⟨rfl, Nat.le_refl _, fun j hj => match j, hj with | 0, _ => (Le.refl _) | 1, _ => (Le.refl _) | 2, _ => (Le.refl _) | 3, _ => (Le.refl _) | 4, _ => (Le.refl _) | 5, _ => (Le.refl _) | 6, _ => (Le.refl _) | 7, _ => (Le.refl _) ⟩, ⟨⟨rfl, Nat.le_refl _, fun j hj => match j, hj with | 0, _ => (Le.refl _) ⟩, trivial⟩⟩⟩) (by exact ⟨by omega, ⟨by omega, ⟨by omega, trivial⟩⟩⟩) (by exact ⟨le_ren (by exact ⟨⟨⟨⟨trivial, trivial⟩, trivial⟩, trivial⟩, trivial⟩), ⟨(Le.refl _), ⟨(Le.refl _), ⟨(Le.refl _), trivial⟩⟩⟩⟩) (by exact le_unren (by exact trivial)) (by exact ⟨⟨rfl, Nat.le_refl _, fun j hj => match j, hj with | 0, _ => (Le.refl _) | 1, _ => (Le.refl _) ⟩, ⟨LeO.rflc, ⟨LeO.rflc, ⟨LeO.rflc, ⟨LeO.rflc, ⟨⟨rfl, Nat.le_refl _, fun j hj => match j, hj with | 0, _ => (Le.refl _) | 1, _ => (Le.refl _) | 2, _ => (Le.refl _) | 3, _ => (Le.refl _) | 4, _ => (Le.refl _) | 5, _ => (Le.refl _) | 6, _ => (Le.refl _) | 7, _ => (Le.refl _) ⟩, ⟨⟨rfl, Nat.le_refl _, fun j hj => match j, hj with | 0, _ => (Le.refl _) ⟩, ⟨LeO.rflc, trivial⟩⟩⟩⟩⟩⟩⟩⟩)))))⟩, ⟨(by omega), ⟨(by omega), ⟨(by omega), ⟨(fun hgd => (vdoes_bool hwc (hwp _))), ⟨fun h => (nomatch h), fun _ => ⟨(by omega), ⟨(by omega), ⟨fun hcc => (nomatch (hne.symm.trans hcc)), fun _ => ⟨(by omega), ⟨(by omega), ⟨(fun _ _ => ⟨rfl, (Go.Avm.Pack.c_choices _ _ _ _ _ _)⟩), ?_⟩⟩⟩⟩⟩⟩⟩⟩⟩⟩⟩⟩⟩
     ·exact hl _ (by assumption)
     ·have hfa : ∀ b v, f b v = eachR x gl.l l.l wn fd n b (updP p m v) := fun b v => by rw [hf]
      refine wp_range 32 [33] 8 (by kernel_rfl) rfl rfl (by kernel_rfl) trivial ⟨trivial, trivial, trivial⟩ (seq_choices x gl m N (by omega) h8 hN (by omega)) (fun _ => rfl) (by kernel_rfl) (fun _ => ⟨trivial, trivial⟩)
       (fun k => if cK f (itemC N) b1 k then none else some .ret) (fun k => by cases cK f (itemC N) b1 k <;> rfl)
       (fun k => [.cells false 2 (nth [encPacks x, encR gl]), .cells false 1 (nth [encC l]), .cells false 1 (nth [.val uw]), .cells false 1 (nth [.val uf]), .cells false 1 (nth [.fn 84 0 (nth []) 5 (nth [.ref 1 0, .ref 0 0, .ref 2 0, .ref 3 0, .ref 4 0])]), .cells false 8 (fun a => .int .i64 (pB p m (itemC N) k a)), .cells false 1 (fun _ => .int .i64 m), .cells false 1 (fun _ => .bool false)])
       (fun k => G (bK f (itemC N) b1 k)) (to_hp rfl (by show G _ = G _; rw [hb1]; rfl)) (fun _ => rfl) (fun k l' hk hjk => ?_) (fun hj => ?_) (fun k hk hj hr => ?_) (fun k id hk hj hr => ?_)
      ·refine vcQ [] (lkL [(6, [6, 7, 8, 9, 10])]) (fun _ => []) (fun Q => Q AEx.normal (St.mk [(6, ref 4 0), (7, ref 5 0), (8, ref 6 0), (9, ref 7 0), (10, int i64 (itemC N k))] [cells false 2 (nth [encPacks x, encR gl]), cells false 1 (nth [encC l]), cells false 1 (nth [val uw]), cells false 1 (nth [val uf]), cells false 1 (nth [fn 84 0 (nth []) 5 (nth [ref 1 0, ref 0 0, ref 2 0, ref 3 0, ref 4 0])]), cells false 8 fun (a : Nat) => int i64 (pB p m (itemC N) k a), cells false 1 fun (x : Nat) => int i64 (m : Int), cells false 1 fun (x : Nat) => AV.bool false] (G (bK f (itemC N) b1 k)))) (fun _ => by kernel_rfl) (?_)
       refine ⟨rfl, ?_⟩
       have hit := itemC_in hk
       have hIk := hIK k (by omega)
       have hin : inQ x (updP p m (itemC N k)) (m + 1) := inQ_upd hp hit.1 (by rw [hN]; exact hit.2)
       have e1 : cK f (itemC N) b1 k = (eachR x gl.l l.l wn fd n (bK f (itemC N) b1 k) (updP p m (itemC N k))).1 := by unfold cK; rw [hfa]
       have e2 : bK f (itemC N) b1 (k + 1) = (eachR x gl.l l.l wn fd n (bK f (itemC N) b1 k) (updP p m (itemC N k))).2 := by
        show (f _ _).2 = _
        rw [hfa]
       refine vcQ [] (lkL [(7, [6, 7, 8, 9]), (8, [9, 42]), (9, [9])]) (lkL [(7, [(3, ROrc.val (Orc.obj fun (a : Nat) => int i64 (updP p m (itemC N k) a)))]), (8, [(4, ROrc.gcall (AV.bool (eachR x gl.l l.l wn fd n (bK f (itemC N) b1 k) (updP p m (itemC N k))).fst) (G (eachR x gl.l l.l wn fd n (bK f (itemC N) b1 k) (updP p m (itemC N k))).snd))]), (9, [(0, ROrc.val (Orc.obj (nth [AV.bool false])))])]) (fun Q => (fun (u1 : List AObj) => (fun (u2 : Bool × β) => (fun (u3 : Int) => 1 ≤ 1 ∧ (0 ≤ u3 ∧ u3 < (↑8 : Int)) ∧ m + 1 ≤ 8 ∧ (∀ (c : Nat), c < 8 → int i64 (updP p m (itemC N k) c) = over (fun (a : Nat) => int i64 (pB p m (itemC N) k a)) m 1 (fun (x : Nat) => int i64 (itemC N k)) c) ∧ 1 ≤ 1 ∧ 8 ≤ 8 ∧ 1 ≤ 1 ∧ (-9223372036854775808 ≤ u3 + 1 ∧ u3 + 1 ≤ 9223372036854775807) ∧ (true = true ∧ Does Tryd.prog R 84 [encPlan (updP p m (itemC N k)), int i64 (u3 + 1), ref 1 0, ref 0 0, ref 2 0, ref 3 0, ref 4 0] u1 (G (bK f (itemC N) b1 k)) (ret (AV.bool u2.fst)) u1 (G u2.snd)) ∧ ((!u2.fst) = true → 1 ≤ 1 ∧ (∀ (c : Nat), c < 1 → nth [AV.bool false] c = over (fun (x : Nat) => AV.bool false) 0 1 (fun (x : Nat) => AV.bool false) c) ∧ Q AEx.ret (St.mk [(9, ref 7 0)] [cells false 2 (nth [encPacks x, encR gl]), cells false 1 (nth [encC l]), cells false 1 (nth [val uw]), cells false 1 (nth [val uf]), cells false 1 (nth [fn 84 0 (nth []) 5 (nth [ref 1 0, ref 0 0, ref 2 0, ref 3 0, ref 4 0])]), cells false 8 fun (a : Nat) => int i64 (updP p m (itemC N k) a), cells false 1 fun (x : Nat) => int i64 u3, cells false 1 (nth [AV.bool false])] (G u2.snd))) ∧ ((!u2.fst) = false → Q AEx.normal (St.mk [(9, ref 7 0), (42, AV.bool !u2.fst)] u1 (G u2.snd)))) ((m : Int))) (eachR x gl.l l.l wn fd n (bK f (itemC N) b1 k) (updP p m (itemC N k)))) ([cells false 2 (nth [encPacks x, encR gl]), cells false 1 (nth [encC l]), cells false 1 (nth [val uw]), cells false 1 (nth [val uf]), cells false 1 (nth [fn 84 0 (nth []) 5 (nth [ref 1 0, ref 0 0, ref 2 0, ref 3 0, ref 4 0])]), cells false 8 fun (a : Nat) => int i64 (updP p m (itemC N k) a), cells false 1 fun (x : Nat) => int i64 (m : Int), cells false 1 fun (x : Nat) => AV.bool false])) (fun _ => by kernel_rfl) ⟨(by omega), ⟨(by omega), ⟨(by omega), ⟨?_, ⟨(by omega), ⟨(by omega), ⟨(by omega), ⟨(by omega), ⟨⟨rfl, (does_subG [0, 1, 2, 3, 4] 8 (killO [0, 1, 2, 3, 4] ([cells false 2 (nth [encPacks x, encR gl]), cells false 1 (nth [encC l]), cells false 1 (nth [val uw]), cells false 1 (nth [val uf]), cells false 1 (nth [fn 84 0 (nth []) 5 (nth [ref 1 0, ref 0 0, ref 2 0, ref 3 0, ref 4 0])]), cells false 8 fun (a : Nat) => int i64 (updP p m (itemC N k) a), cells false 1 fun (x : Nat) => int i64 (m : Int), cells false 1 fun (x : Nat) => AV.bool false])) (fun FM ρ => ih (absorbS (R) FM ρ (pickP ρ [0, 1, 2, 3, 4])) (fun b => (G b, killO [0, 1, 2, 3, 4] ([cells false 2 (nth [encPacks x, encR gl]), cells false 1 (nth [encC l]), cells false 1 (nth [val uw]), cells false 1 (nth [val uf]), cells false 1 (nth [fn 84 0 (nth []) 5 (nth [ref 1 0, ref 0 0, ref 2 0, ref 3 0, ref 4 0])]), cells false 8 fun (a : Nat) => int i64 (updP p m (itemC N k) a), cells false 1 fun (x : Nat) => int i64 (m : Int), cells false 1 fun (x : Nat) => AV.bool false]))) (hE.lift FM ρ _ _) (bK f (itemC N) b1 k) (updP p m (itemC N k)) (by omega) (by omega)) rfl rfl rfl (by exact ⟨⟨rfl, Nat.le_refl _, fun j hj => match j, hj with | 0, _ => (Le.refl _) | 1, _ => (Le.refl _) ⟩, ⟨⟨rfl, Nat.le_refl _, fun j hj => match j, hj with | 0, _ => (Le.refl _) ⟩, ⟨⟨rfl, Nat.le_refl _, fun j hj => match j, hj with | 0, _ => (Le.refl _) ⟩, ⟨⟨rfl, Nat.le_refl _, fun j hj => match j, hj with | 0, _ => (Le.refl _) ⟩, ⟨⟨rfl, Nat.le_refl _, fun j hj => match j, hj with | 0, _ => (Le.fn (fun i hi => absurd hi (by omega)) (fun i hi => match i, hi with | 0, _ => (Le.refl _) | 1, _ => (Le.refl _) | 2, _ => (Le.refl _) | 3, _ => (Le.refl _) | 4, _ => (Le.refl _) )) ⟩, trivial⟩⟩⟩⟩⟩) (by exact ⟨by omega, ⟨by omega, ⟨by omega, ⟨by omega, ⟨by omega, trivial⟩⟩⟩⟩⟩) (by exact ⟨le_ren (by exact ⟨⟨⟨⟨⟨⟨⟨⟨trivial, trivial⟩, trivial⟩, trivial⟩, trivial⟩, trivial⟩, trivial⟩, trivial⟩, trivial⟩), ⟨le_ren (by exact trivial), ⟨(Le.refl _), ⟨(Le.refl _), ⟨(Le.refl _), ⟨(Le.refl _), ⟨(Le.refl _), trivial⟩⟩⟩⟩⟩⟩⟩) (by exact le_unren (by exact trivial)) (by exact ⟨⟨rfl, Nat.le_refl _, fun j hj => match j, hj with | 0, _ => (Le.refl _) | 1, _ => (Le.refl _) ⟩, ⟨⟨rfl, Nat.le_refl _, fun j hj => match j, hj with | 0, _ => (Le.refl _) ⟩, ⟨⟨rfl, Nat.le_refl _, fun j hj => match j, hj with | 0, _ => (Le.refl _) ⟩, ⟨⟨rfl, Nat.le_refl _, fun j hj => match j, hj with | 0, _ => (Le.refl _) ⟩, ⟨⟨rfl, Nat.le_refl _, fun j hj => match j, hj with | 0, _ => (Le.fn (fun i hi => absurd hi (by omega)) (fun i hi => match i, hi with | 0, _ => (Le.refl _) | 1, _ => (Le.refl _) | 2, _ => (Le.refl _) | 3, _ => (Le.refl _) | 4, _ => (Le.refl _) )) ⟩, ⟨LeO.rflc, ⟨LeO.rflc, ⟨LeO.rflc, trivial⟩⟩⟩⟩⟩⟩⟩⟩))⟩, ⟨fun c1 => have c1 : (eachR x gl.l l.l wn fd n (bK f (itemC N) b1 k) (updP p m (itemC N k))).fst = false := ((Bool.not_eq_true' _).mp c1); ⟨(by omega), ⟨(fun c hc => match c, hc with | 0, _ => (by kernel_rfl) ), ?_⟩⟩, fun c1 => have c1 : (eachR x gl.l l.l wn fd n (bK f (itemC N) b1 k) (updP p m (itemC N k))).fst = true := ((Bool.not_eq_false' _).mp c1); ?_⟩⟩⟩⟩⟩⟩⟩⟩⟩⟩
       ·intro c hc
        rw [over_eq]
        show AV.int .i64 (if c = m then _ else _) = _
        by_cases h : c = m
        ·rw [if_pos h, if_pos (by omega)]
        ·rw [if_neg h, if_neg (by omega)]
         cases k with
         | zero => rfl
         | succ k => show _ = AV.int .i64 (if c = m then _ else _); rw [if_neg h]
       ·rw [e1, c1, e2]
        refine (rnd_ret rfl (to_le trivial ⟨LeO.rflc, ⟨LeO.rflc, ⟨LeO.rflc, ⟨LeO.rflc, ⟨LeO.rflc, ⟨(LeO.cells (fun j hj => ?_)), ⟨LeO.rflc, ⟨⟨rfl, Nat.le_refl _, fun j hj => match j, hj with | 0, _ => (Le.refl _) ⟩, trivial⟩⟩⟩⟩⟩⟩⟩⟩ rfl))
        rfl
       ·rw [e1, c1, e2]
        refine (rnd_next rfl (to_le trivial ⟨LeO.rflc, ⟨LeO.rflc, ⟨LeO.rflc, ⟨LeO.rflc, ⟨LeO.rflc, ⟨(LeO.cells (fun j hj => ?_)), ⟨LeO.rflc, ⟨LeO.rflc, trivial⟩⟩⟩⟩⟩⟩⟩⟩ rfl))
        rfl
      ·have hall : ∀ k, k < N + 1 → cK f (itemC N) b1 k = true := fun k hk => by
        have := hj k hk
        cases h : cK f (itemC N) b1 k with
        | true => rfl
        | false => rw [h] at this; cases this
       rw [goN_all hall]
       refine vcQ [] (lkL [(10, [9])]) (lkL [(10, [(0, ROrc.val (Orc.obj (nth [AV.bool true])))])]) (fun Q => 1 ≤ 1 ∧ (∀ (c : Nat), c < 1 → nth [AV.bool true] c = over (fun (x : Nat) => AV.bool false) 0 1 (fun (x : Nat) => AV.bool true) c) ∧ Q AEx.ret (St.mk [(9, ref 7 0)] [cells false 2 (nth [encPacks x, encR gl]), cells false 1 (nth [encC l]), cells false 1 (nth [val uw]), cells false 1 (nth [val uf]), cells false 1 (nth [fn 84 0 (nth []) 5 (nth [ref 1 0, ref 0 0, ref 2 0, ref 3 0, ref 4 0])]), cells false 8 fun (a : Nat) => int i64 (pB p m (itemC N) (N + 1) a), cells false 1 fun (x : Nat) => int i64 (m : Int), cells false 1 (nth [AV.bool true])] (G (bK f (itemC N) b1 (N + 1))))) (fun _ => by kernel_rfl) ⟨(by omega), ⟨(fun c hc => match c, hc with | 0, _ => (by kernel_rfl) ), ?_⟩⟩
       refine (retQ_le (retQ_take' 5 (AV.bool true) ([0 + (TyI.mk (TypeInfo.mk TypeDesc.bool "bool" 1 1 false 1 1 (some (Value.bool false)) true #[]).desc Tryd.prog.types[4].size Tryd.prog.types[4].bytes (cellA (ofVal (Value.bool false))) (isAggD (TypeInfo.mk TypeDesc.bool "bool" 1 1 false 1 1 (some (Value.bool false)) true #[]).desc) (flatTy Tryd.prog 4)).size ≤ 1]) (by kernel_rfl) (by exact ⟨(by decide), trivial⟩) (by omega) trivial ⟨(fun j hj => match j, hj with | 0, _ => trivial | 1, _ => trivial ), ⟨(fun j hj => match j, hj with | 0, _ => trivial ), ⟨(fun j hj => match j, hj with | 0, _ => trivial ), ⟨(fun j hj => match j, hj with | 0, _ => trivial ), ⟨(fun j hj => match j, hj with | 0, _ => ⟨trivial, ⟨⟨⟨⟨⟨trivial, (show 2 ≤ 5 by omega)⟩, (show 1 ≤ 5 by omega)⟩, (show 3 ≤ 5 by omega)⟩, (show 4 ≤ 5 by omega)⟩, (show 5 ≤ 5 by omega)⟩⟩ ), trivial⟩⟩⟩⟩⟩ (by kernel_rfl) rfl rfl) (Le.refl _))
      ·have hall : ∀ j, j < k → cK f (itemC N) b1 j = true := fun j hjk => by
        have := hj j hjk
        cases h : cK f (itemC N) b1 j with
        | true => rfl
        | false => rw [h] at this; cases this
       have hc : cK f (itemC N) b1 k = false := by
        cases h : cK f (itemC N) b1 k with
        | false => rfl
        | true => rw [h] at hr; cases hr
       rw [goN_at hall hk hc]
       refine (retQ_le (retQ_take' 5 (AV.bool false) ([0 + (TyI.mk (TypeInfo.mk TypeDesc.bool "bool" 1 1 false 1 1 (some (Value.bool false)) true #[]).desc Tryd.prog.types[4].size Tryd.prog.types[4].bytes (cellA (ofVal (Value.bool false))) (isAggD (TypeInfo.mk TypeDesc.bool "bool" 1 1 false 1 1 (some (Value.bool false)) true #[]).desc) (flatTy Tryd.prog 4)).size ≤ 1]) (by kernel_rfl) (by exact ⟨(by decide), trivial⟩) (by omega) trivial ⟨(fun j hj => match j, hj with | 0, _ => trivial | 1, _ => trivial ), ⟨(fun j hj => match j, hj with | 0, _ => trivial ), ⟨(fun j hj => match j, hj with | 0, _ => trivial ), ⟨(fun j hj => match j, hj with | 0, _ => trivial ), ⟨(fun j hj => match j, hj with | 0, _ => ⟨trivial, ⟨⟨⟨⟨⟨trivial, (show 2 ≤ 5 by omega)⟩, (show 1 ≤ 5 by omega)⟩, (show 3 ≤ 5 by omega)⟩, (show 4 ≤ 5 by omega)⟩, (show 5 ≤ 5 by omega)⟩⟩ ), trivial⟩⟩⟩⟩⟩ (by kernel_rfl) rfl rfl) (Le.refl _))
      ·cases h : cK f (itemC N) b1 k with
       | true => rw [h] at hr; cases hr
       | false => rw [h] at hr; cases hr
theorem each1_all {β : Type} (x : Ix) (gl : KL Rng) (l : KL Clause) (uw uf : Value) (hx : formedB x = true) (hgl : ∀ r ∈ gl.l, 0 ≤ r.pack ∧ r.pack < x.l.length) (hl : ∀ c ∈ l.l, thereC x gl.l c) (hll : l.l.length < 1000000) (I : β → Prop) (wn : β → (Nat → Int) → Nat → Bool × β) (fd : β → (Nat → Int) → Bool × β) :
  ∀ (n m : Nat), m + n = x.l.length → ∀ (R : Res) (G : β → R.σ), EachH x R G I wn fd uw uf → ∀ b p, I b → inQ x p m → Does Tryd.prog R 84 [encPlan p, .int .i64 m, .ref 1 0, .ref 0 0, .ref 2 0, .ref 3 0, .ref 4 0] (hpE x gl l uw uf) (G b) (.ret (.bool (eachR x gl.l l.l wn fd n b p).1)) (hpE x gl l uw uf) (G (eachR x gl.l l.l wn fd n b p).2)
 | 0, m, hm, R, G, hE, b, p, hb, hp => by
   have e : m = x.l.length := by omega
   subst e
   exact each1_zero x gl l uw uf hx hgl hl hll R G I wn fd hE b p hb hp
 | n + 1, m, hm, R, G, hE, b, p, hb, hp =>
   each1_succ x gl l uw uf hx hgl hl hll I wn fd n m hm (fun R G hE b p hb hp => each1_all x gl l uw uf hx hgl hl hll I wn fd n (m + 1) (by omega) R G hE b p hb hp) R G hE b p hb hp
theorem each_all {β : Type} (x : Ix) (gl : KL Rng) (l : KL Clause) (uw uf : Value) (hx : formedB x = true) (hgl : ∀ r ∈ gl.l, 0 ≤ r.pack ∧ r.pack < x.l.length) (hl : ∀ c ∈ l.l, thereC x gl.l c) (hll : l.l.length < 1000000) (I : β → Prop) (wn : β → (Nat → Int) → Nat → Bool × β) (fd : β → (Nat → Int) → Bool × β)
  (R : Res) (G : β → R.σ) (hE : EachH x R G I wn fd uw uf) (b : β) (hb : I b) : Does Tryd.prog R 52 [encMkt x gl, encC l, .val uw, .val uf] [] (G b) (.ret (.tup 0 (nth []))) [] (G (eachR x gl.l l.l wn fd x.l.length b (fun _ => 0)).2) := by
 have h0 : Does Tryd.prog R 84 [encPlan (fun _ => 0), .int .i64 0, .ref 1 0, .ref 0 0, .ref 2 0, .ref 3 0, .ref 4 0] (hpE x gl l uw uf) (G b) (.ret (.bool (eachR x gl.l l.l wn fd x.l.length b (fun _ => 0)).1)) (hpE x gl l uw uf) (G (eachR x gl.l l.l wn fd x.l.length b (fun _ => 0)).2) :=
  each1_all x gl l uw uf hx hgl hl hll I wn fd x.l.length 0 (by omega) R G hE b (fun _ => 0) hb (fun i hi => absurd hi (by omega))
 have h1 : Does Tryd.prog R 84 [.agg 8 (nth [.int .i64 0, .int .i64 0, .int .i64 0, .int .i64 0, .int .i64 0, .int .i64 0, .int .i64 0, .int .i64 0]), .int .i64 0, .ref 1 0, .ref 0 0, .ref 2 0, .ref 3 0, .ref 4 0] [.cells false 2 (nth [encPacks x, encR gl]), .cells false 1 (fun _ => encC l), .cells false 1 (fun _ => .val uw), .cells false 1 (fun _ => .val uf), .cells false 1 (nth [.fn 84 0 (nth []) 5 (nth [.ref 1 0, .ref 0 0, .ref 2 0, .ref 3 0, .ref 4 0])])] (G b) (.ret (.bool (eachR x gl.l l.l wn fd x.l.length b (fun _ => 0)).1)) (hpE x gl l uw uf) (G (eachR x gl.l l.l wn fd x.l.length b (fun _ => 0)).2) :=
  does_pre (does_conv h0 ⟨Le.agg (fun j hj => match j, hj with | 0, _ => Le.refl _ | 1, _ => Le.refl _ | 2, _ => Le.refl _ | 3, _ => Le.refl _ | 4, _ => Le.refl _ | 5, _ => Le.refl _ | 6, _ => Le.refl _ | 7, _ => Le.refl _), Le.refl _, Le.refl _, Le.refl _, Le.refl _, Le.refl _, Le.refl _, trivial⟩ (Le.refl _))
   ⟨LeO.rflc, LeO.box rfl (Le.refl _), LeO.box rfl (Le.refl _), LeO.box rfl (Le.refl _), LeO.rflc, trivial⟩
 refine spec_of_wp (nt := 13) (rs := []) (k0 := 0) (by kernel_rfl) (by kernel_rfl) (by kernel_rfl) rfl ?_
 refine vcQ [] (lkL [(0, [4, 5, 6, 7]), (1, [4, 5, 6, 7, 8]), (2, [8])]) (lkL [(2, [(1, ROrc.val (Orc.obj (nth [fn 84 0 (nth []) 5 (nth [ref 1 0, ref 0 0, ref 2 0, ref 3 0, ref 4 0])])))]), (3, [(2, ROrc.call (AV.bool (eachR x gl.l l.l wn fd (x.l.length) b fun (x : Nat) => 0).fst) (hpE x gl l uw uf) (G (eachR x gl.l l.l wn fd (x.l.length) b fun (x : Nat) => 0).snd))])]) (fun Q => (fun (u1 : List AObj) => (fun (u2 : AV) => (fun (u3 : Bool × β) => (fun (u4 : AV) => 1 ≤ 1 ∧ (∀ (c : Nat), c < 1 → nth [u2] c = over (fun (a : Nat) => AV.nilf) 0 1 (fun (x : Nat) => u2) c) ∧ 1 ≤ 1 ∧ (true = true ∧ Does Tryd.prog R 84 [agg 8 (nth [u4, u4, u4, u4, u4, u4, u4, u4]), u4, ref 1 0, ref 0 0, ref 2 0, ref 3 0, ref 4 0] [cells false 2 (nth [encPacks x, encR gl]), cells false 1 fun (a : Nat) => encC l, cells false 1 fun (a : Nat) => val uw, cells false 1 fun (a : Nat) => val uf, cells false 1 (nth [u2])] (G b) (ret (AV.bool u3.fst)) u1 (G u3.snd)) ∧ Q AEx.normal (St.mk [] u1 (G u3.snd))) (int i64 0)) (eachR x gl.l l.l wn fd (x.l.length) b fun (x : Nat) => 0)) (fn 84 0 (nth []) 5 (nth [ref 1 0, ref 0 0, ref 2 0, ref 3 0, ref 4 0]))) ([cells false 2 (nth [encPacks x, encR gl]), cells false 1 (nth [encC l]), cells false 1 (nth [val uw]), cells false 1 (nth [val uf]), cells false 1 (nth [fn 84 0 (nth []) 5 (nth [ref 1 0, ref 0 0, ref 2 0, ref 3 0, ref 4 0])])])) (fun _ => by kernel_rfl) ⟨(by omega), ⟨(fun c hc => match c, hc with | 0, _ => (by kernel_rfl) ), ⟨(by omega), ⟨⟨rfl, (h1)⟩, ?_⟩⟩⟩⟩
 refine (retQ_le (retQ_drop _ _ rfl trivial trivial rfl) (Le.refl _))
end Go.Avm.Pack
namespace Go.Avm.Pack
open Go Go.Avm Go.Proofs
open Go.IntKind (i64 u64)
open Go.Avm.AV (int bool any fz fp sl ow ref fn ifc val agg tup)
open Go.Avm.AObj (cells dead)
open Go.Avm.Oc (ret)
set_option maxRecDepth 4000
theorem below_encMkt (x : Ix) (gl : KL Rng) : Below 0 (encMkt x gl) := ⟨⟨trivial, trivial⟩, trivial⟩
theorem clsF (l : List Clause) : Le (.fz .auto 4 l.length (fun i j => clsL l (i * 4 + j))) (encC ⟨l, .auto⟩) :=
 leK_ok (by cases l.length <;> rfl) (fun i j hi hj => by
  show clsL l (i * 4 + j) = clC (l.getD i default) j
  unfold clsL clsC
  rw [show (i * 4 + j) / 4 = i by omega, show (i * 4 + j) % 4 = j by omega])
theorem c_clausesF (R : Res) (x : Ix) (gl : KL Rng) (hp : List AObj) (g : R.σ) (hs : small x) (h : formedB x = true) (hg : gl.l.length ≤ 4) :
  Does Tryd.prog R 53 [encMkt x gl] hp g (.ret (encC ⟨clausesOf x gl.l, .auto⟩)) hp g := by
 refine does_any' (fun R g => ?_) (by exact ⟨below_encMkt x gl, trivial⟩) R hp g
 have h1 : Does Tryd.prog R 53 [encMkt x gl] [] g (.ret (.fz .auto 4 (clausesOf x gl.l).length (fun i j => clsL (clausesOf x gl.l) (i * 4 + j)))) [] g :=
  does_frz 0 [2] (c_clauses R x gl g hs h hg) (Nat.le_refl _) (by exact ⟨fun j _ => below_clsL _ j, Nat.le_refl _, trivial⟩) trivial trivial rfl rfl
 exact does_conv h1 ⟨Le.refl _, trivial⟩ (clsF _)
theorem c_always (R : Res) (p : Nat → Int) (many : Nat) (hp : List AObj) (g : R.σ) : Does Tryd.prog R 54 [encPlan p, .int .i64 many] hp g (.ret (.bool true)) hp g := by
 refine does_any' (fun R g => ?_) (by exact ⟨⟨⟨⟨⟨⟨⟨⟨⟨trivial, trivial⟩, trivial⟩, trivial⟩, trivial⟩, trivial⟩, trivial⟩, trivial⟩, trivial⟩, ⟨trivial, trivial⟩⟩) R hp g
 refine spec_of_wp (nt := 5) (rs := [.tmp 4]) (k0 := 0) (by kernel_rfl) (by kernel_rfl) (by kernel_rfl) rfl ?_
 refine vcQ [] (lkL [(1, [4])]) (fun _ => []) (fun Q => Q AEx.ret (St.mk [(4, AV.bool true)] [cells false 8 fun (a : Nat) => int i64 (p a)] g)) (fun _ => by kernel_rfl) (?_)
 refine (retQ_le (retQ_drop _ _ rfl trivial trivial rfl) (Le.refl _))
theorem c_kept1 (R : Res) (x : Ix) (gl : KL Rng) (p : Nat → Int) (b : Bool) (g : R.σ) : Does Tryd.prog R 90 [encPlan p, .ref 1 0] [.cells false 2 (nth [encPacks x, encR gl]), .cells false 1 (nth [.bool b])] g (.ret (.bool false)) [.cells false 2 (nth [encPacks x, encR gl]), .cells false 1 (nth [.bool true])] g := by
 refine spec_of_wp (nt := 4) (rs := [.tmp 3]) (k0 := 2) (by kernel_rfl) (by kernel_rfl) (by kernel_rfl) rfl ?_
 refine vcQ [] (lkL [(0, [1]), (2, [3])]) (lkL [(1, [(0, ROrc.val (Orc.obj (nth [AV.bool true])))])]) (fun Q => 1 ≤ 1 ∧ (∀ (c : Nat), c < 1 → nth [AV.bool true] c = over (nth [AV.bool b]) 0 1 (fun (x : Nat) => AV.bool true) c) ∧ Q AEx.ret (St.mk [(3, AV.bool false)] [cells false 2 (nth [encPacks x, encR gl]), cells false 1 (nth [AV.bool true]), cells false 8 fun (a : Nat) => int i64 (p a)] g)) (fun _ => by kernel_rfl) ⟨(by omega), ⟨(fun c hc => match c, hc with | 0, _ => (by kernel_rfl) ), ?_⟩⟩
 refine (retQ_le (retQ_take' 2 _ _ rfl trivial (by omega) trivial ⟨(fun j hj => match j, hj with | 0, _ => trivial | 1, _ => trivial ), ⟨(fun j hj => match j, hj with | 0, _ => trivial ), trivial⟩⟩ (by kernel_rfl) rfl rfl) (Le.refl _))
theorem each_fn {β : Type} (x : Ix) (gl : KL Rng) (l : KL Clause) (hx : formedB x = true) (hgl : ∀ r ∈ gl.l, 0 ≤ r.pack ∧ r.pack < x.l.length) (hl : ∀ c ∈ l.l, thereC x gl.l c) (hll : l.l.length < 1000000) (I : β → Prop) (wn : β → (Nat → Int) → Nat → Bool × β) (fd : β → (Nat → Int) → Bool × β)
  (R : Res) (H : β → List AObj) (G : β → R.σ) (hlen : ∀ b b', (H b).length = (H b').length) {f1 na1 nb1 f2 na2 nb2 : Nat} {a1 b1 a2 b2 : Nat → AV} (hpl1 : isPlain Tryd.prog f1 = true) (hpl2 : isPlain Tryd.prog f2 = true)
  (hw : ∀ b p m, I b → inQ x p m → m ≤ x.l.length → Does Tryd.prog R f1 (tab na1 0 a1 ++ [encPlan p, .int .i64 m] ++ tab nb1 0 b1) (H b) (G b) (.ret (.bool (wn b p m).1)) (H (wn b p m).2) (G (wn b p m).2))
  (hf : ∀ b p, I b → inQ x p x.l.length → Does Tryd.prog R f2 (tab na2 0 a2 ++ [encPlan p] ++ tab nb2 0 b2) (H b) (G b) (.ret (.bool (fd b p).1)) (H (fd b p).2) (G (fd b p).2))
  (wI : ∀ b p m, I b → inQ x p m → m ≤ x.l.length → I (wn b p m).2) (fI : ∀ b p, I b → inQ x p x.l.length → I (fd b p).2) (b : β) (hb : I b) :
  Does Tryd.prog R 52 [encMkt x gl, encC l, .fn f1 na1 a1 nb1 b1, .fn f2 na2 a2 nb2 b2] (H b) (G b) (.ret (.tup 0 (nth []))) (H (eachR x gl.l l.l wn fd x.l.length b (fun _ => 0)).2) (G (eachR x gl.l l.l wn fd x.l.length b (fun _ => 0)).2) :=
 does_fnS2 (pre := [encMkt x gl, encC l]) ⟨below_encMkt x gl, trivial, trivial⟩ (fun FM ρ u1 u2 h1 h2 =>
  each_all x gl l u1 u2 hx hgl hl hll I wn fd (absorb R FM ρ) (fun b => (G b, H b))
   ⟨fun b p m i1 i2 i3 hpo => vdoes_absorb h1 hpl1 (args := [encPlan p, .int .i64 m]) (fun j hj => allB_nth (k := 0) (l := [encPlan p, .int .i64 m]) ⟨below_encPlan p, trivial, trivial⟩ j hj) (oc := .ret (.bool _)) trivial (hlen _ _) (hw b p m i1 i2 i3) hpo,
    fun b p i1 i2 hpo => vdoes_absorb h2 hpl2 (args := [encPlan p]) (fun j hj => allB_nth (k := 0) (l := [encPlan p]) ⟨below_encPlan p, trivial⟩ j hj) (oc := .ret (.bool _)) trivial (hlen _ _) (hf b p i1 i2) hpo, wI, fI⟩ b hb)
def keptB (x : Ix) (gl : List Rng) (l : List Clause) : Bool := (eachR x gl l (fun (b : Bool) _ _ => (true, b)) (fun _ _ => (false, true)) x.l.length false (fun _ => 0)).2
theorem c_kept (R : Res) (x : Ix) (gl : KL Rng) (l : KL Clause) (hp : List AObj) (g : R.σ) (hx : formedB x = true) (hgl : ∀ r ∈ gl.l, 0 ≤ r.pack ∧ r.pack < x.l.length) (hl : ∀ c ∈ l.l, thereC x gl.l c) (hll : l.l.length < 1000000) :
  Does Tryd.prog R 60 [encMkt x gl, encC l] hp g (.ret (.bool (keptB x gl.l l.l))) hp g := by
 refine does_any' (fun R g => ?_) (by exact ⟨⟨⟨trivial, trivial⟩, trivial⟩, ⟨trivial, trivial⟩⟩) R hp g
 have hc : Does Tryd.prog R 52 [encMkt x gl, encC l, .fn 54 0 (fun _ => .any) 0 (fun _ => .any), .fn 90 0 (nth []) 1 (nth [.ref 1 0])] [.cells false 2 (nth [encPacks x, encR gl]), .cells false 1 (nth [.bool false])] g (.ret (.tup 0 (nth []))) [.cells false 2 (nth [encPacks x, encR gl]), .cells false 1 (nth [.bool (keptB x gl.l l.l)])] g :=
  each_fn x gl l hx hgl hl hll (fun _ => True) (fun (b : Bool) _ _ => (true, b)) (fun _ _ => (false, true)) R (fun b => [.cells false 2 (nth [encPacks x, encR gl]), .cells false 1 (nth [.bool b])]) (fun _ => g) (fun _ _ => rfl) (by kernel_rfl) (by kernel_rfl)
   (fun b p m _ _ _ => c_always R p m _ g) (fun b p _ _ => c_kept1 R x gl p b g) (fun _ _ _ _ _ _ => trivial) (fun _ _ _ _ => trivial) false trivial
 refine spec_of_wp (nt := 11) (rs := [.tmp 4]) (k0 := 0) (by kernel_rfl) (by kernel_rfl) (by kernel_rfl) rfl ?_
 refine vcQ [] (lkL [(0, [1, 2]), (1, [1, 2, 5]), (2, [5]), (3, [4])]) (lkL [(1, [(1, ROrc.val (Orc.obj (nth [AV.bool false])))]), (2, [(3, ROrc.call (tup 0 (nth [])) [cells false 2 (nth [encPacks x, encR gl]), cells false 1 (nth [AV.bool (keptB x gl.l l.l)])] g)])]) (fun Q => 1 ≤ 1 ∧ (∀ (c : Nat), c < 1 → nth [AV.bool false] c = over (fun (a : Nat) => AV.bool false) 0 1 (fun (x : Nat) => AV.bool false) c) ∧ 2 ≤ 2 ∧ (true = true ∧ Does Tryd.prog R 52 [encMkt x gl, encC l, fn 54 0 (fun (x : Nat) => any) 0 fun (x : Nat) => any, fn 90 0 (nth []) 1 (nth [ref 1 0])] [cells false 2 (nth [encPacks x, encR gl]), cells false 1 (nth [AV.bool false])] g (ret (tup 0 (nth []))) [cells false 2 (nth [encPacks x, encR gl]), cells false 1 (nth [AV.bool (keptB x gl.l l.l)])] g) ∧ 1 ≤ 1 ∧ Q AEx.ret (St.mk [(4, AV.bool (keptB x gl.l l.l))] [cells false 2 (nth [encPacks x, encR gl]), cells false 1 (nth [AV.bool (keptB x gl.l l.l)])] g)) (fun _ => by kernel_rfl) ⟨(by omega), ⟨(fun c hc => match c, hc with | 0, _ => (by kernel_rfl) ), ⟨(by omega), ⟨⟨rfl, (hc)⟩, ⟨(by omega), ?_⟩⟩⟩⟩⟩
 refine (retQ_le (retQ_drop _ _ rfl trivial trivial rfl) (Le.refl _))
end Go.Avm.Pack
namespace Go.Avm.Pack
open Go Go.Avm Go.Proofs
open Go.IntKind (i64 u64)
open Go.Avm.AV (int bool any fz fp sl ow ref fn ifc val agg tup)
open Go.Avm.AObj (cells dead)
open Go.Avm.Oc (ret)
set_option maxRecDepth 4000
def planL (p : Nat → Int) (n : Nat) : List Int := (List.range n).map p
theorem planL_len (p : Nat → Int) (n : Nat) : (planL p n).length = n := by simp [planL]
theorem planL_getD {p : Nat → Int} {n i : Nat} (h : i < n) : (planL p n).getD i 0 = p i := by
 simp [planL, List.getD_eq_getElem?_getD, List.getElem?_map, List.getElem?_range h]
theorem encI_eq (p : Nat → Int) (n : Nat) (k : Fz) {f : Nat → Nat → AV} (hf : ∀ i, i < n → f i 0 = .int .i64 (p i)) : Le (.fz k 1 n f) (encI ⟨planL p n, k⟩) := by
 have e : encI ⟨planL p n, k⟩ = .fz k 1 n (fun i _ => .int .i64 ((planL p n).getD i 0)) := by
  unfold encI; rw [planL_len]
 rw [e]
 cases k <;> refine leK_ok rfl (fun i j hi hj => ?_) <;> (have : j = 0 := by omega) <;> subst this <;> rw [hf i hi, planL_getD hi]
theorem encI_auto {l : List Int} (h : 0 < l.length) : Le (encI ⟨l, .opn⟩) (encI ⟨l, .auto⟩) := Le.opn_auto h
theorem CloneA (R : Res) (p : Nat → Int) (n : Nat) (g : R.σ) (h0 : 0 < n) (h8 : n ≤ 8) : Does Tryd.prog R 56 [.sl 0 0 n 8 true 1] [.cells false 8 (fun a => .int .i64 (p a))] g (.ret (.fz .opn 1 (0 + n) (fun i _ => .int .i64 (p i)))) [.cells false 8 (fun a => .int .i64 (p a))] g := by
 refine spec_of_wp (nt := 8) (rs := [.tmp 2]) (k0 := 1) (by kernel_rfl) (by kernel_rfl) (by kernel_rfl) rfl ?_
 refine vcQ [] (lkL [(0, [0]), (1, [0, 4]), (2, [2]), (3, [2])]) (fun _ => []) (fun Q => (false = true → Q AEx.ret (St.mk [(2, fz Fz.nil 0 0 fun _ _ => any)] [cells false 8 fun (a : Nat) => int i64 (p a)] g)) ∧ (false = false → 0 < 0 + n ∧ 0 < n ∧ 0 < 1 ∧ (0 + n) * 8 ≤ maxRoom ∧ 0 + n ≤ maxRoom ∧ 0 + n * 1 ≤ 8 ∧ 0 ≤ 0 ∧ Q AEx.ret (St.mk [(2, sl 2 0 (0 + n) (0 + n) false 1)] [cells false 8 fun (a : Nat) => int i64 (p a), cells false 0 fun (j : Nat) => int i64 0, cells false ((0 + n) * 1) fun (a : Nat) => int i64 (p (0 + (a - 0) / 1 * 1 + (a - 0) % 1))] g))) (fun _ => by kernel_rfl) ⟨fun h => (nomatch h), fun _ => ⟨(by omega), ⟨(by omega), ⟨(by omega), ⟨?_, ⟨?_, ⟨(by omega), ⟨(by omega), ?_⟩⟩⟩⟩⟩⟩⟩⟩
 ·exact Nat.le_trans (show (0 + n) * 8 ≤ 64 by omega) (by decide)
 ·exact Nat.le_trans (show 0 + n ≤ 8 by omega) (by decide)
 refine (retQ_le (retQ_frz 1 [2] _ _ rfl trivial (by omega) (by exact ⟨(fun _ _ => trivial), ⟨⟨(by simp at * <;> omega), (by simp at * <;> omega)⟩, trivial⟩⟩) (by exact trivial) (by exact ⟨(fun j hj => match j, hj with | 0, _ => trivial | 1, _ => trivial | 2, _ => trivial | 3, _ => trivial | 4, _ => trivial | 5, _ => trivial | 6, _ => trivial | 7, _ => trivial ), trivial⟩) (by kernel_rfl) rfl rfl) (leK_ok rfl (fun i j hi hj => ?_)))
 ·have : j = 0 := by omega
  subst this
  show AV.int .i64 (p _) = AV.int .i64 (p i)
  congr 2
  omega
theorem c_CloneA (R : Res) (p : Nat → Int) (n : Nat) (g : R.σ) (h0 : 0 < n) (h8 : n ≤ 8) : Does Tryd.prog R 56 [.sl 0 0 n 8 true 1] [.cells false 8 (fun a => .int .i64 (p a))] g (.ret (encI ⟨planL p n, .auto⟩)) [.cells false 8 (fun a => .int .i64 (p a))] g := by
 have h1 := CloneA R p n g h0 h8
 rw [Nat.zero_add] at h1
 exact does_conv h1 ⟨Le.refl _, trivial⟩ (fun FM ρ v hv => encI_auto (by rw [planL_len]; exact h0) FM ρ v (encI_eq p n .opn (f := fun i _ => .int .i64 (p i)) (fun i _ => rfl) FM ρ v hv))
def hpB (x : Ix) (gl : KL Rng) (o : List Int) : List AObj := [.cells false 1 (nth [encPacks x]), .cells false 2 (nth [encPacks x, encR gl]), .cells false 1 (nth [encI ⟨o, .auto⟩])]
def fineB (x : Ix) (gl : List Rng) (p : Nat → Int) : Bool := (faultOf x gl p).1 == 0 && ((faultOf x gl p).2 == 0 && true)
def bestO (x : Ix) (gl : List Rng) (o : List Int) (p : Nat → Int) : List Int := if fineB x gl p then planL p x.l.length else o
theorem Best1 (R : Res) (x : Ix) (gl : KL Rng) (p : Nat → Int) (o : List Int) (g : R.σ) (h1 : 1 ≤ x.l.length) (h8 : x.l.length ≤ 8) (h : inP x p) (hw : wfN x p) (hwb : wfB x p) (hl : smallN x p) (hlb : smallB' x p) (hg : gl.l.length < 1000000) (hgl : ∀ r ∈ gl.l, 0 ≤ r.pack ∧ r.pack < x.l.length) :
  Does Tryd.prog R 55 [encPlan p, .ref 1 0, .ref 0 0, .ref 2 0] (hpB x gl o) g (.ret (.bool (Nat.beq (bestO x gl.l o p).length 0))) (hpB x gl (bestO x gl.l o p)) g := by
 have em : x.l.length - 0 = x.l.length := rfl
 cases hf : fineB x gl.l p with
 | true =>
   have e : bestO x gl.l o p = planL p x.l.length := by unfold bestO; rw [hf]; rfl
   rw [e]
   refine spec_of_wp (nt := 18) (rs := [.tmp 5]) (k0 := 3) (by kernel_rfl) (by kernel_rfl) (by kernel_rfl) rfl ?_
   refine vcQ [] (lkL [(0, [1, 2, 3, 4]), (1, [2, 3, 4, 10]), (2, [3]), (3, [5])]) (lkL [(1, [(2, ROrc.pcall (agg 2 (nth [int i64 (faultOf x gl.l p).fst, int i64 (faultOf x gl.l p).snd])))]), (2, [(4, ROrc.kcall (fz Fz.auto 1 ((planL p (x.l.length - 0)).length) fun (i x_1 : Nat) => int i64 ((planL p (x.l.length - 0)).getD i 0))), (5, ROrc.val (Orc.obj (nth [fz Fz.auto 1 ((planL p (x.l.length - 0)).length) fun (i x_1 : Nat) => int i64 ((planL p (x.l.length - 0)).getD i 0)])))])]) (fun Q => (fun (u1 : List AObj) => (fun (u2 : AV) => (fun (u3 : Bool) => 2 ≤ 2 ∧ 8 ≤ 8 ∧ (∀ (hp : List AObj) (g : R.σ), true = true ∧ Does Tryd.prog R 49 [encMkt x gl, encPlan p] hp g (ret (agg 2 (nth [int i64 (faultOf x gl.l p).fst, int i64 (faultOf x gl.l p).snd]))) hp g) ∧ (u3 = true → 1 ≤ 1 ∧ (0 ≤ (x.l.length : Int) ∧ (x.l.length : Int) ≤ (↑8 : Int)) ∧ 0 < 8 ∧ 8 ≤ 8 ∧ 0 < 8 ∧ (true = true ∧ Does Tryd.prog R 56 [sl 3 0 (x.l.length - 0) 8 true 1] u1 g (ret u2) u1 g) ∧ 1 ≤ 1 ∧ (∀ (c : Nat), c < 1 → nth [u2] c = over (nth [fz Fz.auto 1 (o.length) fun (i x : Nat) => int i64 (o.getD i 0)]) 0 1 (fun (x : Nat) => u2) c) ∧ 1 ≤ 1 ∧ Q AEx.ret (St.mk [(5, AV.bool (Nat.beq ((planL p (x.l.length - 0)).length) 0))] [cells false 1 (nth [encPacks x]), cells false 2 (nth [encPacks x, encR gl]), cells false 1 (nth [u2]), cells false 8 fun (a : Nat) => int i64 (p a)] g)) ∧ (u3 = false → 1 ≤ 1 ∧ Q AEx.ret (St.mk [(5, AV.bool (Nat.beq (o.length) 0))] u1 g))) ((faultOf x gl.l p).fst == 0 && ((faultOf x gl.l p).snd == 0 && true))) (fz Fz.auto 1 ((planL p (x.l.length - 0)).length) fun (i x_1 : Nat) => int i64 ((planL p (x.l.length - 0)).getD i 0))) ([cells false 1 (nth [encPacks x]), cells false 2 (nth [encPacks x, encR gl]), cells false 1 (nth [fz Fz.auto 1 (o.length) fun (i x : Nat) => int i64 (o.getD i 0)]), cells false 8 fun (a : Nat) => int i64 (p a)])) (fun _ => by kernel_rfl) ⟨(by omega), ⟨(by omega), ⟨(fun _ _ => ⟨rfl, (Go.Avm.Pack.c_fault _ _ _ _ _ _ (by omega) (by omega) (by omega) (by omega) (by omega) (by omega) (by omega) (by omega))⟩), ⟨fun c1 => ⟨(by omega), ⟨(by omega), ⟨(by omega), ⟨(by omega), ⟨(by omega), ⟨⟨rfl, (does_sub' [3] 4 (fun R g => Go.Avm.Pack.c_CloneA R (p) (x.l.length - 0) g (by omega) (by omega)) rfl rfl rfl (by exact ⟨⟨rfl, Nat.le_refl _, fun j hj => match j, hj with | 0, _ => (Le.refl _) | 1, _ => (Le.refl _) | 2, _ => (Le.refl _) | 3, _ => (Le.refl _) | 4, _ => (Le.refl _) | 5, _ => (Le.refl _) | 6, _ => (Le.refl _) | 7, _ => (Le.refl _) ⟩, trivial⟩) (by exact ⟨by omega, trivial⟩) (by exact ⟨(Le.refl _), trivial⟩) (by exact le_unren (by exact trivial)) (by exact ⟨LeO.rflc, ⟨LeO.rflc, ⟨LeO.rflc, ⟨⟨rfl, Nat.le_refl _, fun j hj => match j, hj with | 0, _ => (Le.refl _) | 1, _ => (Le.refl _) | 2, _ => (Le.refl _) | 3, _ => (Le.refl _) | 4, _ => (Le.refl _) | 5, _ => (Le.refl _) | 6, _ => (Le.refl _) | 7, _ => (Le.refl _) ⟩, trivial⟩⟩⟩⟩))⟩, ⟨(by omega), ⟨(fun c hc => match c, hc with | 0, _ => (by kernel_rfl) ), ⟨(by omega), ?_⟩⟩⟩⟩⟩⟩⟩⟩⟩, fun c1 => ⟨(by omega), ?_⟩⟩⟩⟩⟩
   ·refine (retQ_le (retQ_take' 3 _ _ rfl trivial (by omega) trivial ⟨(fun j hj => match j, hj with | 0, _ => trivial ), ⟨(fun j hj => match j, hj with | 0, _ => trivial | 1, _ => trivial ), ⟨(fun j hj => match j, hj with | 0, _ => trivial ), trivial⟩⟩⟩ (by kernel_rfl) rfl rfl) (Le.of_eq (by kernel_rfl)))
   ·exact absurd (show fineB x gl.l p = false from c1) (by rw [hf]; decide)
 | false =>
   have e : bestO x gl.l o p = o := by unfold bestO; rw [hf]; rfl
   rw [e]
   refine spec_of_wp (nt := 18) (rs := [.tmp 5]) (k0 := 3) (by kernel_rfl) (by kernel_rfl) (by kernel_rfl) rfl ?_
   refine vcQ [] (lkL [(0, [1, 2, 3, 4]), (1, [2, 3, 4, 10]), (2, [3]), (3, [5])]) (lkL [(1, [(2, ROrc.pcall (agg 2 (nth [int i64 (faultOf x gl.l p).fst, int i64 (faultOf x gl.l p).snd])))]), (2, [(4, ROrc.kcall (fz Fz.auto 1 ((planL p (x.l.length - 0)).length) fun (i x_1 : Nat) => int i64 ((planL p (x.l.length - 0)).getD i 0))), (5, ROrc.val (Orc.obj (nth [fz Fz.auto 1 ((planL p (x.l.length - 0)).length) fun (i x_1 : Nat) => int i64 ((planL p (x.l.length - 0)).getD i 0)])))])]) (fun Q => (fun (u1 : List AObj) => (fun (u2 : AV) => (fun (u3 : Bool) => 2 ≤ 2 ∧ 8 ≤ 8 ∧ (∀ (hp : List AObj) (g : R.σ), true = true ∧ Does Tryd.prog R 49 [encMkt x gl, encPlan p] hp g (ret (agg 2 (nth [int i64 (faultOf x gl.l p).fst, int i64 (faultOf x gl.l p).snd]))) hp g) ∧ (u3 = true → 1 ≤ 1 ∧ (0 ≤ (x.l.length : Int) ∧ (x.l.length : Int) ≤ (↑8 : Int)) ∧ 0 < 8 ∧ 8 ≤ 8 ∧ 0 < 8 ∧ (true = true ∧ Does Tryd.prog R 56 [sl 3 0 (x.l.length - 0) 8 true 1] u1 g (ret u2) u1 g) ∧ 1 ≤ 1 ∧ (∀ (c : Nat), c < 1 → nth [u2] c = over (nth [fz Fz.auto 1 (o.length) fun (i x : Nat) => int i64 (o.getD i 0)]) 0 1 (fun (x : Nat) => u2) c) ∧ 1 ≤ 1 ∧ Q AEx.ret (St.mk [(5, AV.bool (Nat.beq ((planL p (x.l.length - 0)).length) 0))] [cells false 1 (nth [encPacks x]), cells false 2 (nth [encPacks x, encR gl]), cells false 1 (nth [u2]), cells false 8 fun (a : Nat) => int i64 (p a)] g)) ∧ (u3 = false → 1 ≤ 1 ∧ Q AEx.ret (St.mk [(5, AV.bool (Nat.beq (o.length) 0))] u1 g))) ((faultOf x gl.l p).fst == 0 && ((faultOf x gl.l p).snd == 0 && true))) (fz Fz.auto 1 ((planL p (x.l.length - 0)).length) fun (i x_1 : Nat) => int i64 ((planL p (x.l.length - 0)).getD i 0))) ([cells false 1 (nth [encPacks x]), cells false 2 (nth [encPacks x, encR gl]), cells false 1 (nth [fz Fz.auto 1 (o.length) fun (i x : Nat) => int i64 (o.getD i 0)]), cells false 8 fun (a : Nat) => int i64 (p a)])) (fun _ => by kernel_rfl) ⟨(by omega), ⟨(by omega), ⟨(fun _ _ => ⟨rfl, (Go.Avm.Pack.c_fault _ _ _ _ _ _ (by omega) (by omega) (by omega) (by omega) (by omega) (by omega) (by omega) (by omega))⟩), ⟨fun c1 => ⟨(by omega), ⟨(by omega), ⟨(by omega), ⟨(by omega), ⟨(by omega), ⟨⟨rfl, (does_sub' [3] 4 (fun R g => Go.Avm.Pack.c_CloneA R (p) (x.l.length - 0) g (by omega) (by omega)) rfl rfl rfl (by exact ⟨⟨rfl, Nat.le_refl _, fun j hj => match j, hj with | 0, _ => (Le.refl _) | 1, _ => (Le.refl _) | 2, _ => (Le.refl _) | 3, _ => (Le.refl _) | 4, _ => (Le.refl _) | 5, _ => (Le.refl _) | 6, _ => (Le.refl _) | 7, _ => (Le.refl _) ⟩, trivial⟩) (by exact ⟨by omega, trivial⟩) (by exact ⟨(Le.refl _), trivial⟩) (by exact le_unren (by exact trivial)) (by exact ⟨LeO.rflc, ⟨LeO.rflc, ⟨LeO.rflc, ⟨⟨rfl, Nat.le_refl _, fun j hj => match j, hj with | 0, _ => (Le.refl _) | 1, _ => (Le.refl _) | 2, _ => (Le.refl _) | 3, _ => (Le.refl _) | 4, _ => (Le.refl _) | 5, _ => (Le.refl _) | 6, _ => (Le.refl _) | 7, _ => (Le.refl _) ⟩, trivial⟩⟩⟩⟩))⟩, ⟨(by omega), ⟨(fun c hc => match c, hc with | 0, _ => (by kernel_rfl) ), ⟨(by omega), ?_⟩⟩⟩⟩⟩⟩⟩⟩⟩, fun c1 => ⟨(by omega), ?_⟩⟩⟩⟩⟩
   ·exact absurd (show fineB x gl.l p = true from c1) (by rw [hf]; decide)
   ·refine (retQ_le (retQ_take' 3 _ _ rfl trivial (by omega) trivial ⟨(fun j hj => match j, hj with | 0, _ => trivial ), ⟨(fun j hj => match j, hj with | 0, _ => trivial | 1, _ => trivial ), ⟨(fun j hj => match j, hj with | 0, _ => trivial ), trivial⟩⟩⟩ (by kernel_rfl) rfl rfl) (Le.refl _))
end Go.Avm.Pack
namespace Go.Avm.Pack
open Go Go.Avm Go.Proofs
open Go.IntKind (i64 u64)
open Go.Avm.AV (int bool any fz fp sl ow ref fn ifc val agg tup)
open Go.Avm.AObj (cells dead)
open Go.Avm.Oc (ret)
set_option maxRecDepth 4000
theorem check_parts {x : Ix} {gl : List Rng} (h : checkB x gl = true) : formedB x = true ∧ gl.length ≤ 4 ∧ ∀ r ∈ gl, rangedB x r = true := by
 unfold checkB at h
 rw [Bool.and_eq_true, Bool.and_eq_true] at h
 exact ⟨h.1, of_decide_eq_true h.2.1, fun r hr => List.all_eq_true.1 h.2.2 r hr⟩
theorem check_goals {x : Ix} {gl : List Rng} (h : checkB x gl = true) : ∀ r ∈ gl, 0 ≤ r.pack ∧ r.pack < x.l.length := fun r hr => ranged_pack ((check_parts h).2.2 r hr)
def bestP (x : Ix) (gl : List Rng) : List Int := (eachR x gl (clausesOf x gl) (fun (b : List Int) _ _ => (true, b)) (fun b p => (Nat.beq (bestO x gl b p).length 0, bestO x gl b p)) x.l.length [] (fun _ => 0)).2
def bestR (x : Ix) (gl : List Rng) : List Int × Int := if checkB x gl then (bestP x gl, if Nat.beq (bestP x gl).length 0 then 5 else 0) else ([], 2)
theorem nums_mem {c d : Clause} {n : Nat} (h : d ∈ nums c n) : ∃ i, i < n ∧ d = numQ c i := by
 unfold nums at h
 obtain ⟨i, hi, rfl⟩ := List.mem_map.1 h
 exact ⟨i, by simpa using hi, rfl⟩
theorem preL_mem {i : Nat} {l : List Rel} {k : Nat} {c : Clause} (h : c ∈ preL i l k) : ∃ j, j < k ∧ c ∈ relCl i j (l.getD j default) := by
 unfold preL at h
 obtain ⟨j, hj, hc⟩ := List.mem_flatMap.1 h
 exact ⟨j, by simpa using hj, hc⟩
theorem there_all {x : Ix} {gl : List Rng} {c : Clause} (h : c ∈ clausesOf x gl) : thereC x gl c := by
 unfold clausesOf preP at h
 rcases List.mem_append.1 h with h | h
 ·obtain ⟨i, hi, rfl⟩ := nums_mem h
  exact .inl ⟨rfl, by show (0 : Int) ≤ i; omega, by show (i : Int) < _; omega⟩
 ·obtain ⟨i, hi, hc⟩ := List.mem_flatMap.1 h
  have hi : i < x.l.length := by simpa using hi
  obtain ⟨k, hk, hc⟩ := preL_mem hc
  unfold relCl at hc
  right
  rcases List.mem_append.1 hc with hc | hc
  ·obtain ⟨j, hj, rfl⟩ := nums_mem hc
   exact ⟨by show (0 : Int) ≤ (i : Int); omega, by show (i : Int) < _; omega, by show (0 : Int) ≤ (k : Int); omega, by show (k : Int) < ((x.l.getD i default).l.length : Int); omega, by show (0 : Int) ≤ (j : Int); omega, (fun h => by cases h), (fun _ => by show (j : Int) < (((x.l.getD i default).l.getD k default).needs.l.length : Int); omega)⟩
  ·obtain ⟨j, hj, rfl⟩ := nums_mem hc
   exact ⟨by show (0 : Int) ≤ (i : Int); omega, by show (i : Int) < _; omega, by show (0 : Int) ≤ (k : Int); omega, by show (k : Int) < ((x.l.getD i default).l.length : Int); omega, by show (0 : Int) ≤ (j : Int); omega, (fun _ => by show (j : Int) < (((x.l.getD i default).l.getD k default).bars.l.length : Int); omega), (fun h => by cases h)⟩
theorem cls_len {x : Ix} {gl : List Rng} (hx : formedB x = true) (hg : gl.length ≤ 4) : (clausesOf x gl).length < 1000000 := by
 have := preP_len hx (m := gl.length) x.l.length (Nat.le_refl _)
 have := (formed_le hx).2
 unfold clausesOf
 omega
theorem c_Best (R : Res) (x : Ix) (gl : KL Rng) (hp : List AObj) (g : R.σ) (hs : small x) (hg : gl.l.length < 1000000) :
  Does Tryd.prog R 17 [encIx x, encR gl] hp g (.ret (.tup 2 (nth [encI ⟨(bestR x gl.l).1, .auto⟩, .int .i64 (bestR x gl.l).2]))) hp g := by
 refine does_any' (fun R g => ?_) (by exact ⟨⟨trivial, trivial⟩, ⟨trivial, trivial⟩⟩) R hp g
 cases hck : checkB x gl.l with
 | false =>
   have e : bestR x gl.l = ([], 2) := by unfold bestR; rw [hck]; rfl
   rw [e]
   refine spec_of_wp (nt := 23) (rs := [.tmp 4, .tmp 5]) (k0 := 0) (by kernel_rfl) (by kernel_rfl) (by kernel_rfl) rfl ?_
   refine vcQ [] (lkL [(0, [1, 2]), (1, [1, 2, 11]), (2, [4, 5]), (3, [2, 6]), (4, [2, 6, 7]), (5, [7])]) (lkL [(1, [(2, ROrc.pcall (int i64 2))]), (3, [(4, ROrc.val (Orc.obj (nth [encPacks x, encR gl])))]), (5, [(2, ROrc.call (ow true 5 ((clausesOf x gl.l).length) 4) [cells false 1 (nth [encPacks x]), cells false 2 (nth [encPacks x, encR gl]), cells false 1 fun (a : Nat) => fz Fz.nil 0 0 fun _ _ => any, dead, dead, cells false ((clausesOf x gl.l).length * 4) (clsL (clausesOf x gl.l))] g)])]) (fun Q => (fun (u1 : AV) => 1 ≤ 1 ∧ (∀ (hp : List AObj) (g : R.σ), true = true ∧ Does Tryd.prog R 47 [encIx x, encR gl] hp g (ret (int i64 2)) hp g) ∧ (true = true → Q AEx.ret (St.mk [(4, u1), (5, int i64 2)] [cells false 1 (nth [encPacks x])] g)) ∧ (true = false → 1 ≤ 1 ∧ 2 ≤ 2 ∧ (∀ (c : Nat), c < 2 → nth [encPacks x, encR gl] c = over (nth [u1, u1]) 0 2 (List.brecOn (motive := fun (x : List AV) => Nat → AV) [encPacks x, encR gl] nth._f) c) ∧ False)) (fz Fz.nil 0 0 fun _ _ => any)) (fun _ => by kernel_rfl) ⟨(by omega), ⟨(fun _ _ => ⟨rfl, (Go.Avm.Pack.c_Check_f _ _ _ _ _ (by omega) (by omega) (by omega))⟩), ⟨fun _ => ?_, fun h => (nomatch h)⟩⟩⟩
   refine (retQ_le (retQ_drop _ _ rfl trivial ⟨⟨trivial, trivial⟩, trivial⟩ rfl) (Le.tup (fun j hj => match j, hj with | 0, _ => Le.nil_auto | 1, _ => (Le.of_eq (by kernel_rfl)) )))
 | true =>
   obtain ⟨hx, hg4, hr⟩ := check_parts hck
   have hgl := check_goals hck
   obtain ⟨hx1, h8⟩ := formed_le hx
   have hl : ∀ c ∈ clausesOf x gl.l, thereC x gl.l c := fun c hc => there_all hc
   have hll : (clausesOf x gl.l).length < 1000000 := cls_len hx hg4
   have hc : Does Tryd.prog R 52 [encMkt x gl, encC ⟨clausesOf x gl.l, .auto⟩, .fn 54 0 (fun _ => .any) 0 (fun _ => .any), .fn 55 0 (nth []) 3 (nth [.ref 1 0, .ref 0 0, .ref 2 0])] [.cells false 1 (nth [encPacks x]), .cells false 2 (nth [encPacks x, encR gl]), .cells false 1 (fun _ => .fz .nil 0 0 (fun _ _ => .any))] g (.ret (.tup 0 (nth []))) [.cells false 1 (nth [encPacks x]), .cells false 2 (nth [encPacks x, encR gl]), .cells false 1 (nth [encI ⟨bestP x gl.l, .auto⟩])] g :=
    does_pre (each_fn x gl ⟨clausesOf x gl.l, .auto⟩ hx hgl hl hll (fun _ => True) (fun (b : List Int) _ _ => (true, b)) (fun b p => (Nat.beq (bestO x gl.l b p).length 0, bestO x gl.l b p)) R (hpB x gl) (fun _ => g) (fun _ _ => rfl) (by kernel_rfl) (by kernel_rfl)
     (fun b p m _ _ _ => c_always R p m _ g) (fun b p _ hp => Best1 R x gl p b g hx1 h8 hp (formed_wfN hx hp) (formed_wfB hx hp) (formed_smallN hx hp) (formed_smallB hx hp) hg hgl) (fun _ _ _ _ _ _ => trivial) (fun _ _ _ _ => trivial) [] trivial)
     ⟨LeO.rflc, LeO.rflc, LeO.box rfl Le.nil_auto, trivial⟩
   cases hb : Nat.beq (bestP x gl.l).length 0 with
   | true =>
     have e : bestR x gl.l = ([], 5) := by unfold bestR; rw [hck, hb, List.eq_nil_of_length_eq_zero (Nat.eq_of_beq_eq_true hb)]; rfl
     rw [e]
     refine spec_of_wp (nt := 23) (rs := [.tmp 4, .tmp 5]) (k0 := 0) (by kernel_rfl) (by kernel_rfl) (by kernel_rfl) rfl ?_
     refine vcQ [] (lkL [(0, [1, 2]), (1, [1, 2, 11]), (2, [4, 5]), (3, [2, 6]), (4, [2, 6, 7]), (5, [7]), (6, [7, 21]), (7, [4, 5]), (8, [4, 5])]) (lkL [(1, [(2, ROrc.pcall (int i64 0))]), (3, [(4, ROrc.val (Orc.obj (nth [encPacks x, encR gl])))]), (5, [(2, ROrc.pcall (encC (KL.mk (clausesOf x gl.l) Fz.auto))), (4, ROrc.callS (tup 0 (nth [])) [(2, cells false 1 (nth [encI (KL.mk (bestP x gl.l) Fz.auto)]))] g)])]) (fun Q => (fun (u1 : List AObj) => (fun (u2 : AV) => (fun (u3 : AV) => 1 ≤ 1 ∧ (∀ (hp : List AObj) (g : R.σ), true = true ∧ Does Tryd.prog R 47 [encIx x, encR gl] hp g (ret (int i64 0)) hp g) ∧ (false = true → Q AEx.ret (St.mk [(4, u2), (5, int i64 2)] [cells false 1 (nth [encPacks x])] g)) ∧ (false = false → 1 ≤ 1 ∧ 2 ≤ 2 ∧ (∀ (c : Nat), c < 2 → nth [encPacks x, encR gl] c = over (nth [u2, u2]) 0 2 (List.brecOn (motive := fun (x : List AV) => Nat → AV) [encPacks x, encR gl] nth._f) c) ∧ Tables.follows Tryd.prog.toTables Departure.mixedOrders = true ∧ 2 ≤ 2 ∧ 2 ≤ 2 ∧ (∀ (hp : List AObj) (g : R.σ), true = true ∧ Does Tryd.prog R 53 [encMkt x gl] hp g (ret u3) hp g) ∧ (true = true ∧ Does Tryd.prog R 52 [encMkt x gl, u3, fn 54 0 (fun (x : Nat) => any) 0 fun (x : Nat) => any, fn 55 0 (nth []) 3 (nth [ref 1 0, ref 0 0, ref 2 0])] [cells false 1 (nth [encPacks x]), cells false 2 (nth [encPacks x, encR gl]), cells false 1 fun (a : Nat) => u2] g (ret (tup 0 (nth []))) u1 g) ∧ 1 ≤ 1 ∧ (Nat.beq ((bestP x gl.l).length) 0 = true → Q AEx.ret (St.mk [(4, u2), (5, int i64 5)] u1 g)) ∧ (Nat.beq ((bestP x gl.l).length) 0 = false → 1 ≤ 1 ∧ Q AEx.ret (St.mk [(4, fz Fz.auto 1 ((bestP x gl.l).length) fun (i x_3 : Nat) => int i64 ((bestP x gl.l).getD i 0)), (5, int i64 0)] u1 g)))) (fz Fz.auto 4 ((clausesOf x gl.l).length) fun (i : Nat) => clC ((clausesOf x gl.l).getD i default))) (fz Fz.nil 0 0 fun _ _ => any)) ([cells false 1 (nth [encPacks x]), cells false 2 (nth [encPacks x, encR gl]), cells false 1 (nth [fz Fz.auto 1 ((bestP x gl.l).length) fun (i x_1 : Nat) => int i64 ((bestP x gl.l).getD i 0)])])) (fun _ => by kernel_rfl) ⟨(by omega), ⟨(fun _ _ => ⟨rfl, (Go.Avm.Pack.c_Check_t _ _ _ _ _ (by omega) (by omega) (by omega))⟩), ⟨fun h => (nomatch h), fun _ => ⟨(by omega), ⟨(by omega), ⟨(fun c hc => match c, hc with | 0, _ => (by kernel_rfl) | 1, _ => (by kernel_rfl) ), ⟨(by kernel_rfl), ⟨(by omega), ⟨(by omega), ⟨(fun _ _ => ⟨rfl, (Go.Avm.Pack.c_clausesF _ _ _ _ _ (by omega) (by omega) (by omega))⟩), ⟨⟨rfl, (hc)⟩, ⟨(by omega), ⟨fun _ => ?_, fun hcc => (nomatch (hb.symm.trans hcc))⟩⟩⟩⟩⟩⟩⟩⟩⟩⟩⟩⟩⟩
     refine (retQ_le (retQ_drop _ _ rfl trivial ⟨⟨trivial, trivial⟩, trivial⟩ rfl) (Le.tup (fun j hj => match j, hj with | 0, _ => Le.nil_auto | 1, _ => (Le.of_eq (by kernel_rfl)) )))
   | false =>
     have e : bestR x gl.l = (bestP x gl.l, 0) := by unfold bestR; rw [hck, hb]; rfl
     rw [e]
     refine spec_of_wp (nt := 23) (rs := [.tmp 4, .tmp 5]) (k0 := 0) (by kernel_rfl) (by kernel_rfl) (by kernel_rfl) rfl ?_
     refine vcQ [] (lkL [(0, [1, 2]), (1, [1, 2, 11]), (2, [4, 5]), (3, [2, 6]), (4, [2, 6, 7]), (5, [7]), (6, [7, 21]), (7, [4, 5]), (8, [4, 5])]) (lkL [(1, [(2, ROrc.pcall (int i64 0))]), (3, [(4, ROrc.val (Orc.obj (nth [encPacks x, encR gl])))]), (5, [(2, ROrc.pcall (encC (KL.mk (clausesOf x gl.l) Fz.auto))), (4, ROrc.callS (tup 0 (nth [])) [(2, cells false 1 (nth [encI (KL.mk (bestP x gl.l) Fz.auto)]))] g)])]) (fun Q => (fun (u1 : List AObj) => (fun (u2 : AV) => (fun (u3 : AV) => 1 ≤ 1 ∧ (∀ (hp : List AObj) (g : R.σ), true = true ∧ Does Tryd.prog R 47 [encIx x, encR gl] hp g (ret (int i64 0)) hp g) ∧ (false = true → Q AEx.ret (St.mk [(4, u2), (5, int i64 2)] [cells false 1 (nth [encPacks x])] g)) ∧ (false = false → 1 ≤ 1 ∧ 2 ≤ 2 ∧ (∀ (c : Nat), c < 2 → nth [encPacks x, encR gl] c = over (nth [u2, u2]) 0 2 (List.brecOn (motive := fun (x : List AV) => Nat → AV) [encPacks x, encR gl] nth._f) c) ∧ Tables.follows Tryd.prog.toTables Departure.mixedOrders = true ∧ 2 ≤ 2 ∧ 2 ≤ 2 ∧ (∀ (hp : List AObj) (g : R.σ), true = true ∧ Does Tryd.prog R 53 [encMkt x gl] hp g (ret u3) hp g) ∧ (true = true ∧ Does Tryd.prog R 52 [encMkt x gl, u3, fn 54 0 (fun (x : Nat) => any) 0 fun (x : Nat) => any, fn 55 0 (nth []) 3 (nth [ref 1 0, ref 0 0, ref 2 0])] [cells false 1 (nth [encPacks x]), cells false 2 (nth [encPacks x, encR gl]), cells false 1 fun (a : Nat) => u2] g (ret (tup 0 (nth []))) u1 g) ∧ 1 ≤ 1 ∧ (Nat.beq ((bestP x gl.l).length) 0 = true → Q AEx.ret (St.mk [(4, u2), (5, int i64 5)] u1 g)) ∧ (Nat.beq ((bestP x gl.l).length) 0 = false → 1 ≤ 1 ∧ Q AEx.ret (St.mk [(4, fz Fz.auto 1 ((bestP x gl.l).length) fun (i x_3 : Nat) => int i64 ((bestP x gl.l).getD i 0)), (5, int i64 0)] u1 g)))) (fz Fz.auto 4 ((clausesOf x gl.l).length) fun (i : Nat) => clC ((clausesOf x gl.l).getD i default))) (fz Fz.nil 0 0 fun _ _ => any)) ([cells false 1 (nth [encPacks x]), cells false 2 (nth [encPacks x, encR gl]), cells false 1 (nth [fz Fz.auto 1 ((bestP x gl.l).length) fun (i x_1 : Nat) => int i64 ((bestP x gl.l).getD i 0)])])) (fun _ => by kernel_rfl) ⟨(by omega), ⟨(fun _ _ => ⟨rfl, (Go.Avm.Pack.c_Check_t _ _ _ _ _ (by omega) (by omega) (by omega))⟩), ⟨fun h => (nomatch h), fun _ => ⟨(by omega), ⟨(by omega), ⟨(fun c hc => match c, hc with | 0, _ => (by kernel_rfl) | 1, _ => (by kernel_rfl) ), ⟨(by kernel_rfl), ⟨(by omega), ⟨(by omega), ⟨(fun _ _ => ⟨rfl, (Go.Avm.Pack.c_clausesF _ _ _ _ _ (by omega) (by omega) (by omega))⟩), ⟨⟨rfl, (hc)⟩, ⟨(by omega), ⟨fun hcc => (nomatch (hb.symm.trans hcc)), fun _ => ⟨(by omega), ?_⟩⟩⟩⟩⟩⟩⟩⟩⟩⟩⟩⟩⟩⟩
     refine (retQ_le (retQ_drop _ _ rfl trivial ⟨⟨trivial, trivial⟩, trivial⟩ rfl) (Le.of_eq (by kernel_rfl)))
end Go.Avm.Pack
namespace Go.Avm.Pack
open Go Go.Avm Go.Proofs
open Go.IntKind (i64 u64)
open Go.Avm.AV (int bool any fz fp sl ow ref fn ifc val agg tup)
open Go.Avm.AObj (cells dead)
open Go.Avm.Oc (ret)
set_option maxRecDepth 4000
def cntN (n : Nat) (q : Nat → Bool) : Nat := ((List.range n).filter q).length
theorem cntN_succ (n : Nat) (q : Nat → Bool) : cntN (n + 1) q = cntN n q + if q n then 1 else 0 := by
 unfold cntN
 rw [List.range_succ, List.filter_append, List.length_append]
 cases h : q n <;> simp [h]
theorem cntN_le (n : Nat) (q : Nat → Bool) : cntN n q ≤ n := by
 have := List.length_filter_le q (List.range n)
 simpa [cntN] using this
def diffN (a b : List Int) : Nat := cntN (min a.length b.length) (fun i => a.getD i 0 != b.getD i 0)
end Go.Avm.Pack
namespace Go.Avm.Pack
open Go Go.Avm Go.Proofs
open Go.IntKind (i64 u64)
open Go.Avm.AV (int bool any fz fp sl ow ref fn ifc val agg tup)
open Go.Avm.AObj (cells dead)
open Go.Avm.Oc (ret)
set_option maxRecDepth 4000
def grdB (hv : List Int) (s : List Int × Int) : Bool := Nat.beq s.1.length 0 || !(Nat.beq hv.length 0)
def fromR (x : Ix) (gl : List Rng) (l : List Clause) (right : Bool) (hv : List Int) : Nat → List Int × Int → List Int → List Int × Int
 | 0, s, p => if brkB x gl l (planOf p x.l.length) x.l.length then s else if right && !((faultOf x gl (planOf p x.l.length)).1 == 0) then s else
   if Nat.beq s.1.length 0 || decide ((diffN p hv : Int) < s.2) then (p, (diffN p hv : Int)) else s
 | n + 1, s, p => if brkB x gl l (planOf p x.l.length) (x.l.length - (n + 1)) then s else
     (List.range ((x.l.getD (x.l.length - (n + 1)) default).l.length + 1)).foldl (fun s k => if grdB hv s then fromR x gl l right hv n s (p.set (x.l.length - (n + 1)) (itemC (x.l.getD (x.l.length - (n + 1)) default).l.length k)) else s) s
end Go.Avm.Pack
namespace Go.Avm.Pack
open Go Go.Avm Go.Proofs
open Go.IntKind (i64 u64)
open Go.Avm.AV (int bool any fz fp sl ow ref fn ifc val agg tup)
open Go.Avm.AObj (cells dead)
open Go.Avm.Oc (ret)
set_option maxRecDepth 4000
def stepR (x : Ix) (gl : List Rng) (l : List Clause) (right : Bool) (hv : List Int) (n m N : Nat) (p : List Int) (s : List Int × Int) (k : Nat) : List Int × Int := if grdB hv s then fromR x gl l right hv n s (p.set m (itemC N k)) else s
def runR (x : Ix) (gl : List Rng) (l : List Clause) (right : Bool) (hv : List Int) (n m N : Nat) (p : List Int) (s : List Int × Int) (j : Nat) : List Int × Int := (List.range j).foldl (stepR x gl l right hv n m N p) s
theorem runR_succ {x : Ix} {gl : List Rng} {l : List Clause} {right : Bool} {hv : List Int} {n m N : Nat} {p : List Int} {s : List Int × Int} {j : Nat} : runR x gl l right hv n m N p s (j + 1) = stepR x gl l right hv n m N p (runR x gl l right hv n m N p s j) j := by
 unfold runR; rw [List.range_succ, List.foldl_append]; rfl
theorem fromR_succ {x : Ix} {gl : List Rng} {l : List Clause} {right : Bool} {hv : List Int} {n m N : Nat} {p : List Int} {s : List Int × Int} (hm : x.l.length - (n + 1) = m) (hN : (x.l.getD m default).l.length = N) (hb : brkB x gl l (planOf p x.l.length) m = false) :
  fromR x gl l right hv (n + 1) s p = runR x gl l right hv n m N p s (N + 1) := by
 show (if brkB x gl l (planOf p x.l.length) (x.l.length - (n + 1)) then s else _) = _
 rw [hm, hb, hN]; rfl
def intsC (l : List Int) : Nat → AV := fun a => .int .i64 (l.getD a 0)
theorem below_intsC {k : Nat} (l : List Int) (j : Nat) : Below k (intsC l j) := trivial
theorem set_getD {l : List Int} {m j : Nat} {v : Int} (hj : j < l.length) : (l.set m v).getD j 0 = if j = m then v else l.getD j 0 := by
 rw [List.getD_eq_getElem?_getD, List.getD_eq_getElem?_getD, List.getElem?_set]
 by_cases h : m = j
 ·subst h; simp [hj]
 ·rw [if_neg h, if_neg (fun e => h e.symm)]
theorem planOf_lt {l : List Int} {n i : Nat} (h : i < n) : planOf l n i = l.getD i 0 := if_pos h
def searchR (x : Ix) (gl : List Rng) (l : List Clause) (right : Bool) (hv : List Int) : List Int × Int := fromR x gl l right hv x.l.length ([], 0) (planL (fun _ => -1) x.l.length)
end Go.Avm.Pack
namespace Go.Avm.Pack
open Go Go.Avm Go.Proofs
open Go.IntKind (i64 u64)
open Go.Avm.AV (int bool any fz fp sl ow ref fn ifc val agg tup)
open Go.Avm.AObj (cells dead)
open Go.Avm.Oc (ret)
set_option maxRecDepth 4000
def rbestR (x : Ix) (gl : List Rng) : List Int × Int := ((searchR x gl (clausesOf x gl) true []).1, if Nat.beq (searchR x gl (clausesOf x gl) true []).1.length 0 then 5 else 0)
end Go.Avm.Pack
namespace Go.Avm.Pack
open Go Go.Avm Go.Proofs
open Go.IntKind (i64 u64)
open Go.Avm.AV (int bool any fz fp sl ow ref fn ifc val agg tup)
open Go.Avm.AObj (cells dead)
open Go.Avm.Oc (ret)
set_option maxRecDepth 4000
theorem CloneC0 (R : Res) (l : List Clause) (g : R.σ) (h0 : 0 < l.length) (h1 : l.length < 10000) : Does Tryd.prog R 62 [encC ⟨l, .auto⟩] [] g (.ret (.sl 1 0 (0 + l.length) (0 + l.length) false 4)) [.cells false 0 (fun j => nth [.int .i64 0, .int .i64 0, .bool false, .int .i64 0] (j % 4)), .cells false ((0 + l.length) * 4) (clsL l)] g := by
 refine spec_of_wp (nt := 8) (rs := [.tmp 2]) (k0 := 0) (by kernel_rfl) (by kernel_rfl) (by kernel_rfl) rfl ?_
 refine vcQ [] (lkL [(0, [0]), (1, [0, 4]), (2, [2]), (3, [2])]) (lkL [(3, [(2, ROrc.val (Orc.obj (clsL l)))])]) (fun Q => (fun (u1 : Nat) => (Nat.beq (l.length) 0 = true → Q AEx.ret (St.mk [(2, fz Fz.nil 0 0 fun _ _ => any)] [] g)) ∧ (Nat.beq (l.length) 0 = false → 0 < u1 ∧ 0 < l.length ∧ 0 < 4 ∧ u1 * 32 ≤ maxRoom ∧ u1 ≤ maxRoom ∧ 0 ≤ 0 ∧ (∀ (c : Nat), c < u1 * 4 → clsL l c = plainJ 4 0 (fun (i j : Nat) => nth [int i64 0, int i64 0, AV.bool false, int i64 0] ((0 + i * 4 + j) % 4)) (fun (i : Nat) => clC (l.getD i default)) c) ∧ Q AEx.ret (St.mk [(2, sl 1 0 u1 u1 false 4)] [cells false 0 fun (j : Nat) => nth [int i64 0, int i64 0, AV.bool false, int i64 0] (j % 4), cells false (u1 * 4) (clsL l)] g))) (0 + l.length)) (fun _ => by kernel_rfl) ⟨fun c1 => ?_, fun c1 => ⟨(by omega), ⟨(by omega), ⟨(by omega), ⟨?_, ⟨?_, ⟨(by omega), ⟨?_, ?_⟩⟩⟩⟩⟩⟩⟩⟩
 ·exfalso
  have := Nat.eq_of_beq_eq_true c1
  omega
 ·exact Nat.le_trans (show (0 + l.length) * 32 ≤ 320000 by omega) (by decide)
 ·exact Nat.le_trans (show 0 + l.length ≤ 10000 by omega) (by decide)
 ·intro c hc
  unfold plainJ clsL clsC
  rw [if_neg (by omega), show c - 0 * 4 = c by omega]
 ·refine (retQ_le (retQ_same' _ _ rfl trivial rfl rfl rfl) (Le.refl _))
def delL (l : List Clause) (i : Nat) : Nat → AV := fun c => if c < (l.length - 1) * 4 then clsL (l.eraseIdx i) c else clsL l c
theorem erase_lo {α : Type} {l : List α} {i k : Nat} {d : α} (h : k < i) : (l.eraseIdx i).getD k d = l.getD k d := by
 rw [List.getD_eq_getElem?_getD, List.getD_eq_getElem?_getD, List.getElem?_eraseIdx, if_pos h]
theorem erase_hi {α : Type} {l : List α} {i k : Nat} {d : α} (h : i ≤ k) : (l.eraseIdx i).getD k d = l.getD (k + 1) d := by
 rw [List.getD_eq_getElem?_getD, List.getD_eq_getElem?_getD, List.getElem?_eraseIdx, if_neg (by omega)]
theorem below_delL {k : Nat} (l : List Clause) (i c : Nat) : Below k (delL l i c) := by
 unfold delL; split <;> exact below_clsL _ _
theorem Delete_mid (R : Res) (l : List Clause) (i n : Nat) (g : R.σ) (hn : l.length = n) (hi : i + 1 < n) (h1 : n < 10000) : Does Tryd.prog R 61 [.sl 0 0 n n false 4, .int .i64 i, .int .i64 ((i : Int) + 1)] [.cells false (n * 4) (clsL l)] g (.ret (.fz .opn 4 (i + (n - (i + 1))) (fun a b => delL l i (0 + a * 4 + b)))) [.dead] g := by
 refine spec_of_wp (nt := 33) (rs := [.tmp 6]) (k0 := 1) (by kernel_rfl) (by kernel_rfl) (by kernel_rfl) rfl ?_
 refine vcQ [] (lkL [(0, [0, 1, 2]), (1, [0, 1, 2]), (2, [0, 1, 2, 16]), (3, [6]), (4, [0, 1, 2, 7]), (5, [0, 7]), (6, [0]), (7, [6])]) (lkL [(5, [(6, ROrc.own (sl 1 0 (i + (n - (i + 1))) n false 4) [dead, cells false (n * 4) (delL l i)] g)]), (6, [(5, ROrc.own any [dead, cells false (0 + (i + (n - (i + 1))) * 4) (delL l i)] g)])]) (fun Q => (fun (u1 : Nat) => (fun (u2 : Int) => (fun (u3 : Int) => (fun (u4 : AV) => (0 ≤ u3 ∧ u3 ≤ u3) ∧ (0 ≤ u2 + 1 ∧ u2 + 1 ≤ u3) ∧ (0 ≤ u2 ∧ u2 ≤ (↑(i + 1) : Int)) ∧ i < n ∧ ((u2 == u2 + 1) = true → Q AEx.ret (St.mk [(6, sl 0 0 n n false 4)] [cells false (n * 4) (clsL l)] g)) ∧ ((u2 == u2 + 1) = false → Tables.follows Tryd.prog.toTables Departure.mixedOrders = true ∧ (0 ≤ u2 ∧ u2 ≤ u3) ∧ 0 < n ∧ n ≤ n ∧ (0 ≤ u2 + 1 ∧ u2 + 1 ≤ u3) ∧ i + 1 < n ∧ OpOk Tryd.prog R (Oper.mk (some 26) (Op.call (Call.mk (Callee.builtin Builtin.append) #[Operand.tmp 22, Operand.tmp 25] #[52, 52])) 52 "slices.go:232" #[Edge.mk 2 Ground.data, Edge.mk 5 Ground.data] none) (evO [Row.mk (some 25) none (sl 0 (0 + (i + 1) * 4) (n - (i + 1)) (n - (i + 1)) false 4) false (some []) [], Row.mk (some 24) none (int i64 (u2 + 1)) false (some []) [], Row.mk (some 23) none (sl 0 0 n n false 4) false (some []) [], Row.mk (some 22) none (sl 0 0 (i - 0) (n - 0) false 4) false (some []) [], Row.mk (some 21) none (int i64 u2) false (some []) [], Row.mk (some 20) none (sl 0 0 n n false 4) false (some []) []] [(0, sl 0 0 n n false 4), (1, int i64 u2), (2, int i64 (u2 + 1)), (7, int i64 u3)] []) [cells false (n * 4) (clsL l)] g u4 [dead, cells false (n * 4) (delL l i)] g ∧ (0 ≤ u3 ∧ u3 ≤ u3) ∧ (0 ≤ (u1 : Int) ∧ (u1 : Int) ≤ u3) ∧ u1 < n ∧ OpOk Tryd.prog R (Oper.mk none (Op.call (Call.mk (Callee.builtin Builtin.clear) #[Operand.tmp 31] #[52])) 0 "slices.go:233" #[Edge.mk 4 Ground.data] none) (evO [Row.mk (some 31) none (sl 1 (0 + u1 * 4) (n - u1) (n - u1) false 4) false (some []) [], Row.mk (some 30) none (int i64 u3) false (some []) [], Row.mk (some 29) none (int i64 (u1 : Int)) false (some []) [], Row.mk (some 28) none u4 false (some []) [], Row.mk (some 27) none u4 false (some []) []] [(0, u4), (7, int i64 u3)] []) [dead, cells false (n * 4) (delL l i)] g any [dead, cells false (0 + u1 * 4) (delL l i)] g ∧ Q AEx.ret (St.mk [(6, u4)] [dead, cells false (0 + u1 * 4) (delL l i)] g))) (sl 1 0 u1 n false 4)) ((n : Int))) ((i : Int))) (i + (n - (i + 1)))) (fun _ => by kernel_rfl) ⟨(by omega), ⟨(by omega), ⟨(by omega), ⟨(by omega), ⟨fun c1 => have c1 : (i : Int) = (i : Int) + 1 := (beq_iff_eq.mp c1); ?_, fun c1 => have c1 : ¬(i : Int) = (i : Int) + 1 := (beq_eq_false_iff_ne.mp c1); ⟨(by kernel_rfl), ⟨(by omega), ⟨(by omega), ⟨(by omega), ⟨(by omega), ⟨(by omega), ⟨?_, ⟨(by omega), ⟨(by omega), ⟨(by omega), ⟨?_, ?_⟩⟩⟩⟩⟩⟩⟩⟩⟩⟩⟩⟩⟩⟩⟩⟩
 ·exfalso; omega
 ·obtain ⟨ei, hei⟩ := elemSize_of (ty := tyOf Tryd.prog) (t := 52) (es := 4) (by kernel_rfl)
  refine opOk_appendIn (t := 52) (s := .tmp 22) (x := .tmp 25) (ob := 0) (off := 0) (len := i) (cap := n) (es := 4) (N := n * 4) (n := n - (i + 1)) (ex := false) (ei := ei) (get0 := clsL l) (get' := delL l i) (new := fun a b => clsL l (0 + (i + 1) * 4 + a * 4 + b)) (ob1 := [0 + (i + 1) * 4 + (n - (i + 1)) * 4 ≤ n * 4]) rfl rfl rfl rfl rfl rfl hei rfl ⟨by omega, trivial⟩ (by omega) (by omega) (by omega) (by omega) (fun c hc => ?_) (fun c h1 h2 => ?_)
  ·unfold delL
   rw [if_pos (by omega)]
   show clC ((l.eraseIdx i).getD (c / 4) default) (c % 4) = if c < i * 4 then clsL l (0 + c / 4 * 4 + c % 4) else clsL l (0 + (i + 1) * 4 + (c - i * 4) / 4 * 4 + (c - i * 4) % 4)
   by_cases h : c < i * 4
   ·rw [if_pos h, erase_lo (by omega), show 0 + c / 4 * 4 + c % 4 = c by omega]; rfl
   ·rw [if_neg h, erase_hi (by omega), show 0 + (i + 1) * 4 + (c - i * 4) / 4 * 4 + (c - i * 4) % 4 = c + 4 by omega]
    show _ = clC (l.getD ((c + 4) / 4) default) ((c + 4) % 4)
    rw [show (c + 4) / 4 = c / 4 + 1 by omega, show (c + 4) % 4 = c % 4 by omega]
  ·unfold delL
   rw [if_neg (by omega), Nat.zero_add]
 ·obtain ⟨ei, hei⟩ := elemSize_of (ty := tyOf Tryd.prog) (t := 52) (es := 4) (by kernel_rfl)
  exact opOk_clear (t := 52) (x := .tmp 31) (ob := 1) (off := 0 + (i + (n - (i + 1))) * 4) (len := n - (i + (n - (i + 1)))) (cap := n - (i + (n - (i + 1)))) (N := n * 4) (es := 4) (ex := false) (ei := ei) (get0 := delL l i) rfl rfl rfl rfl rfl rfl hei (by omega) (by omega) (by omega) (by omega)
 ·refine (retQ_le (retQ_frz 1 [1] _ _ rfl trivial (by omega) (by exact ⟨(fun _ _ => (by first | exact trivial | apply Go.Avm.Pack.below_delL)), ⟨⟨(by simp at * <;> omega), (by simp at * <;> omega)⟩, trivial⟩⟩) (by exact trivial) (by exact trivial) (by kernel_rfl) rfl rfl) (Le.refl _))
theorem Delete_end (R : Res) (l : List Clause) (i n : Nat) (g : R.σ) (hn : l.length = n) (hi : i + 1 = n) (h1 : n < 10000) : Does Tryd.prog R 61 [.sl 0 0 n n false 4, .int .i64 i, .int .i64 ((i : Int) + 1)] [.cells false (n * 4) (clsL l)] g (.ret (.fz .opn 4 i (fun a b => clsL l (0 + a * 4 + b)))) [.dead] g := by
 refine spec_of_wp (nt := 33) (rs := [.tmp 6]) (k0 := 1) (by kernel_rfl) (by kernel_rfl) (by kernel_rfl) rfl ?_
 refine vcQ [] (lkL [(0, [0, 1, 2]), (1, [0, 1, 2]), (2, [0, 1, 2, 16]), (3, [6]), (4, [0, 1, 2, 7]), (5, [0, 7]), (6, [0]), (7, [6])]) (lkL [(5, [(5, ROrc.val (Orc.obj fun (x : Nat) => any)), (6, ROrc.own (sl 0 0 i n false 4) [cells false (n * 4) (clsL l)] g)]), (6, [(5, ROrc.own any [cells false (0 + i * 4) (clsL l)] g)])]) (fun Q => (fun (u1 : Int) => (fun (u2 : Int) => (fun (u3 : List AObj) => (fun (u4 : AV) => (0 ≤ u2 ∧ u2 ≤ u2) ∧ (0 ≤ u1 + 1 ∧ u1 + 1 ≤ u2) ∧ (0 ≤ u1 ∧ u1 ≤ (↑(i + 1) : Int)) ∧ i < n ∧ ((u1 == u1 + 1) = true → Q AEx.ret (St.mk [(6, sl 0 0 n n false 4)] u3 g)) ∧ ((u1 == u1 + 1) = false → Tables.follows Tryd.prog.toTables Departure.mixedOrders = true ∧ (0 ≤ u1 ∧ u1 ≤ u2) ∧ 0 < n ∧ n ≤ n ∧ (0 ≤ u1 + 1 ∧ u1 + 1 ≤ u2) ∧ i + 1 = n ∧ OpOk Tryd.prog R (Oper.mk (some 26) (Op.call (Call.mk (Callee.builtin Builtin.append) #[Operand.tmp 22, Operand.tmp 25] #[52, 52])) 52 "slices.go:232" #[Edge.mk 2 Ground.data, Edge.mk 5 Ground.data] none) (evO [Row.mk (some 25) none (fz Fz.opn 4 0 fun _ _ => any) false (some []) [], Row.mk (some 24) none (int i64 (u1 + 1)) false (some []) [], Row.mk (some 23) none (sl 0 0 n n false 4) false (some []) [], Row.mk (some 22) none (sl 0 0 (i - 0) (n - 0) false 4) false (some []) [], Row.mk (some 21) none (int i64 u1) false (some []) [], Row.mk (some 20) none (sl 0 0 n n false 4) false (some []) []] [(0, sl 0 0 n n false 4), (1, int i64 u1), (2, int i64 (u1 + 1)), (7, int i64 u2)] []) u3 g u4 u3 g ∧ (0 ≤ u2 ∧ u2 ≤ u2) ∧ (0 ≤ u1 ∧ u1 ≤ u2) ∧ i < n ∧ OpOk Tryd.prog R (Oper.mk none (Op.call (Call.mk (Callee.builtin Builtin.clear) #[Operand.tmp 31] #[52])) 0 "slices.go:233" #[Edge.mk 4 Ground.data] none) (evO [Row.mk (some 31) none (sl 0 (0 + i * 4) (n - i) (n - i) false 4) false (some []) [], Row.mk (some 30) none (int i64 u2) false (some []) [], Row.mk (some 29) none (int i64 u1) false (some []) [], Row.mk (some 28) none u4 false (some []) [], Row.mk (some 27) none u4 false (some []) []] [(0, u4), (7, int i64 u2)] []) u3 g any [cells false (0 + i * 4) (clsL l)] g ∧ Q AEx.ret (St.mk [(6, u4)] [cells false (0 + i * 4) (clsL l)] g))) (sl 0 0 i n false 4)) ([cells false (n * 4) (clsL l)])) ((n : Int))) ((i : Int))) (fun _ => by kernel_rfl) ⟨(by omega), ⟨(by omega), ⟨(by omega), ⟨(by omega), ⟨fun c1 => have c1 : (i : Int) = (i : Int) + 1 := (beq_iff_eq.mp c1); ?_, fun c1 => have c1 : ¬(i : Int) = (i : Int) + 1 := (beq_eq_false_iff_ne.mp c1); ⟨(by kernel_rfl), ⟨(by omega), ⟨(by omega), ⟨(by omega), ⟨(by omega), ⟨(by omega), ⟨?_, ⟨(by omega), ⟨(by omega), ⟨(by omega), ⟨?_, ?_⟩⟩⟩⟩⟩⟩⟩⟩⟩⟩⟩⟩⟩⟩⟩⟩
 ·exfalso; omega
 ·obtain ⟨ei, hei⟩ := elemSize_of (ty := tyOf Tryd.prog) (t := 52) (es := 4) (by kernel_rfl)
  exact opOk_appendZero (t := 52) (es := 4) (es1 := 4) (es2 := 4) (s := .tmp 22) (x := .tmp 25) (ob := 0) (off := 0) (len := i) (cap := n) (ex := false) (ei := ei) (get := fun _ _ => .any) rfl rfl rfl rfl rfl hei rfl (by omega)
 ·obtain ⟨ei, hei⟩ := elemSize_of (ty := tyOf Tryd.prog) (t := 52) (es := 4) (by kernel_rfl)
  exact opOk_clear (t := 52) (x := .tmp 31) (ob := 0) (off := 0 + i * 4) (len := n - i) (cap := n - i) (N := n * 4) (es := 4) (ex := false) (ei := ei) (get0 := clsL l) rfl rfl rfl rfl rfl rfl hei (by omega) (by omega) (by omega) (by omega)
 ·refine (retQ_le (retQ_frz 1 [0] _ _ rfl trivial (by omega) (by exact ⟨(fun _ _ => (by first | exact trivial | apply Go.Avm.Pack.below_clsL)), ⟨⟨(by simp at * <;> omega), (by simp at * <;> omega)⟩, trivial⟩⟩) (by exact trivial) (by exact trivial) (by kernel_rfl) rfl rfl) (Le.refl _))
end Go.Avm.Pack
namespace Go.Avm.Pack
open Go Go.Avm Go.Proofs
open Go.IntKind (i64 u64)
open Go.Avm.AV (int bool any fz fp sl ow ref fn ifc val agg tup)
open Go.Avm.AObj (cells dead)
open Go.Avm.Oc (ret)
set_option maxRecDepth 4000
theorem c_CloneC (R : Res) (l : KL Clause) (g : R.σ) (h0 : 0 < l.l.length) (h1 : l.l.length < 10000) : Does Tryd.prog R 62 [encC l] [] g (.ret (.sl 1 0 l.l.length l.l.length false 4)) [.dead, .cells false (l.l.length * 4) (clsL l.l)] g := by
 have h := CloneC0 R l.l g h0 h1
 rw [Nat.zero_add] at h
 exact does_le (does_conv h ⟨Le.any_auto h0, trivial⟩ (Le.refl _)) ⟨LeO.dead _, LeO.rflc, trivial⟩
theorem c_Delete (R : Res) (l : List Clause) (k : Int) (g : R.σ) (h0 : 0 ≤ k) (hk : k < l.length) (h1 : l.length < 10000) : Does Tryd.prog R 61 [.sl 0 0 l.length l.length false 4, .int .i64 k, .int .i64 (k + 1)] [.cells false (l.length * 4) (clsL l)] g (.ret (encC ⟨l.eraseIdx k.toNat, .may⟩)) [.dead] g := by
 obtain ⟨i, rfl⟩ : ∃ i : Nat, k = i := ⟨k.toNat, by omega⟩
 have hi : i < l.length := by omega
 have he : (l.eraseIdx i).length = l.length - 1 := by rw [List.length_eraseIdx, if_pos hi]
 have key : ∀ (n : Nat) (f : Nat → Nat → AV), n = l.length - 1 → (∀ a b, a < n → b < 4 → f a b = clC ((l.eraseIdx i).getD a default) b) → Le (.fz .opn 4 n f) (encC ⟨l.eraseIdx i, .may⟩) := fun n f hn hf => by
  subst hn
  rw [← he] at hf ⊢
  exact leK_ok rfl hf
 rcases Nat.lt_or_ge (i + 1) l.length with h | h
 ·refine does_conv (Delete_mid R l i l.length g rfl h h1) ⟨Le.refl _, Le.refl _, Le.refl _, trivial⟩ (key _ _ (by omega) (fun a b ha hb => ?_))
  show delL l i (0 + a * 4 + b) = _
  unfold delL
  rw [if_pos (by omega)]
  show clC ((l.eraseIdx i).getD ((0 + a * 4 + b) / 4) default) ((0 + a * 4 + b) % 4) = _
  rw [show (0 + a * 4 + b) / 4 = a by omega, show (0 + a * 4 + b) % 4 = b by omega]
 ·refine does_conv (Delete_end R l i l.length g rfl (by omega) h1) ⟨Le.refl _, Le.refl _, Le.refl _, trivial⟩ (key _ _ (by omega) (fun a b ha hb => ?_))
  show clC (l.getD ((0 + a * 4 + b) / 4) default) ((0 + a * 4 + b) % 4) = _
  rw [show (0 + a * 4 + b) / 4 = a by omega, show (0 + a * 4 + b) % 4 = b by omega, erase_lo ha]
def coreAt (kept : List Clause → Bool) : Nat → List Clause → List Clause
 | 0, c => c
 | i + 1, c => coreAt kept i (if kept (c.eraseIdx i) then c else c.eraseIdx i)
def corePick (kept : List Clause → Bool) (l : List Clause) : List Clause × Int := if kept l then ([], 5) else (coreAt kept l.length l, 0)
def coreR (x : Ix) (gl : List Rng) : List Clause × Int := if checkB x gl then corePick (keptB x gl) (clausesOf x gl) else ([], 2)
theorem cls_len' {x : Ix} {gl : List Rng} (hx : formedB x = true) (hg : gl.length ≤ 4) : (clausesOf x gl).length < 10000 := by
 have := preP_len hx (m := gl.length) x.l.length (Nat.le_refl _)
 have := (formed_le hx).2
 unfold clausesOf
 omega
theorem c_Core (R : Res) (x : Ix) (gl : KL Rng) (hp : List AObj) (g : R.σ) (hs : small x) (hg : gl.l.length < 1000000) :
  Does Tryd.prog R 20 [encIx x, encR gl] hp g (.ret (.tup 2 (nth [encC ⟨(coreR x gl.l).1, .may⟩, .int .i64 (coreR x gl.l).2]))) hp g := by
 refine does_any' (fun R g => ?_) (by exact ⟨⟨trivial, trivial⟩, ⟨trivial, trivial⟩⟩) R hp g
 cases hck : checkB x gl.l with
 | false =>
   have e : coreR x gl.l = ([], 2) := by unfold coreR; rw [hck]; rfl
   rw [e]
   refine spec_of_wp (nt := 41) (rs := [.tmp 4, .tmp 5]) (k0 := 0) (by kernel_rfl) (by kernel_rfl) (by kernel_rfl) rfl ?_
   refine vcQ [] (lkL [(0, [1, 2]), (1, [1, 2, 13]), (2, [4, 5]), (3, [6]), (4, [6, 7]), (5, [6, 7, 21])]) (lkL [(1, [(2, ROrc.pcall (int i64 2))]), (3, [(4, ROrc.val (Orc.obj (nth [encPacks x, encR gl])))]), (4, [(1, ROrc.call (ow true 4 ((clausesOf x gl.l).length) 4) [cells false 1 (nth [encPacks x]), cells false 2 (nth [encPacks x, encR gl]), dead, dead, cells false ((clausesOf x gl.l).length * 4) (clsL (clausesOf x gl.l))] g)])]) (fun Q => (fun (u1 : AV) => (fun (u2 : AObj) => (fun (u3 : List AV) => 1 ≤ 1 ∧ (∀ (hp : List AObj) (g : R.σ), true = true ∧ Does Tryd.prog R 47 [encIx x, encR gl] hp g (ret (int i64 2)) hp g) ∧ (true = true → Q AEx.ret (St.mk [(4, u1), (5, int i64 2)] [u2] g)) ∧ (true = false → 1 ≤ 1 ∧ 2 ≤ 2 ∧ (∀ (c : Nat), c < 2 → nth u3 c = over (nth [u1, u1]) 0 2 (List.brecOn (motive := fun (x : List AV) => Nat → AV) u3 nth._f) c) ∧ 2 ≤ 2 ∧ (true = true ∧ Does Tryd.prog R 53 [encMkt x gl] [u2, cells false 2 (nth u3)] g (ret (ow true 4 ((clausesOf x gl.l).length) 4)) [u2, cells false 2 (nth u3), dead, dead, cells false ((clausesOf x gl.l).length * 4) (clsL (clausesOf x gl.l))] g) ∧ False)) ([encPacks x, encR gl])) (cells false 1 (nth [encPacks x]))) (fz Fz.nil 0 0 fun _ _ => any)) (fun _ => by kernel_rfl) ⟨(by omega), ⟨(fun _ _ => ⟨rfl, (Go.Avm.Pack.c_Check_f _ _ _ _ _ (by omega) (by omega) (by omega))⟩), ⟨fun _ => ?_, fun h => (nomatch h)⟩⟩⟩
   refine (retQ_le (retQ_drop _ _ rfl trivial ⟨⟨trivial, trivial⟩, trivial⟩ rfl) (Le.tup (fun j hj => match j, hj with | 0, _ => Le.nil_may | 1, _ => (Le.of_eq (by kernel_rfl)) )))
 | true =>
   obtain ⟨hx, hg4, hr⟩ := check_parts hck
   have hgl := check_goals hck
   obtain ⟨hx1, h8⟩ := formed_le hx
   have hl : ∀ c ∈ clausesOf x gl.l, thereC x gl.l c := fun c hc => there_all hc
   have hll := cls_len' hx hg4
   have hcc : ∀ (hp : List AObj) (g : R.σ), Does Tryd.prog R 53 [encMkt x gl] hp g (.ret (encC ⟨clausesOf x gl.l, .auto⟩)) hp g := fun hp g => c_clausesF R x gl hp g hs hx hg4
   have e : coreR x gl.l = corePick (keptB x gl.l) (clausesOf x gl.l) := by unfold coreR; rw [hck]; rfl
   rw [e]
   unfold corePick
   obtain ⟨cl, hcl⟩ : ∃ cl, clausesOf x gl.l = cl := ⟨_, rfl⟩
   rw [hcl] at hl hll hcc ⊢
   cases hb : keptB x gl.l cl with
   | true =>
     refine spec_of_wp (nt := 41) (rs := [.tmp 4, .tmp 5]) (k0 := 0) (by kernel_rfl) (by kernel_rfl) (by kernel_rfl) rfl ?_
     refine vcQ [] (lkL [(0, [1, 2]), (1, [1, 2, 13]), (2, [4, 5]), (3, [6]), (4, [6, 7]), (5, [6, 7, 21]), (6, [4, 5]), (7, [6, 7, 8])]) (lkL [(1, [(2, ROrc.pcall (int i64 0))]), (3, [(4, ROrc.val (Orc.obj (nth [encPacks x, encR gl])))]), (4, [(1, ROrc.pcall (encC (KL.mk cl Fz.auto)))]), (5, [(2, ROrc.pcall (AV.bool true))])]) (fun Q => (fun (u1 : AV) => (fun (u2 : AV) => (fun (u3 : List AObj) => (fun (u4 : Int) => 1 ≤ 1 ∧ (∀ (hp : List AObj) (g : R.σ), true = true ∧ Does Tryd.prog R 47 [encIx x, encR gl] hp g (ret (int i64 0)) hp g) ∧ (false = true → Q AEx.ret (St.mk [(4, u2), (5, int i64 2)] [cells false 1 (nth [encPacks x])] g)) ∧ (false = false → 1 ≤ 1 ∧ 2 ≤ 2 ∧ (∀ (c : Nat), c < 2 → nth [encPacks x, encR gl] c = over (nth [u2, u2]) 0 2 (List.brecOn (motive := fun (x : List AV) => Nat → AV) [encPacks x, encR gl] nth._f) c) ∧ 2 ≤ 2 ∧ (∀ (hp : List AObj) (g : R.σ), true = true ∧ Does Tryd.prog R 53 [encMkt x gl] hp g (ret u1) hp g) ∧ 2 ≤ 2 ∧ (∀ (hp : List AObj) (g : R.σ), true = true ∧ Does Tryd.prog R 60 [encMkt x gl, u1] hp g (ret (AV.bool true)) hp g) ∧ (true = true → Q AEx.ret (St.mk [(4, u2), (5, int i64 5)] u3 g)) ∧ (true = false → (-9223372036854775808 ≤ u4 ∧ u4 ≤ 9223372036854775807) ∧ Wp Tryd.prog R 41 0 Rd.top (bodyOf Tryd.prog 20) [1, 1, 1, 1, 1, 0, 1, 0] (contQ Tryd.prog R 41 0 Rd.top (bodyOf Tryd.prog 20) Q [Kont.blk 0, Kont.seq [1, 1, 1, 1, 1, 1]]) (St.mk [(6, ref 1 0), (7, u1), (8, int i64 u4)] u3 g)))) ((cl.length : Int) - 1)) ([cells false 1 (nth [encPacks x]), cells false 2 (nth [encPacks x, encR gl])])) (fz Fz.nil 0 0 fun _ _ => any)) (fz Fz.auto 4 (cl.length) fun (i : Nat) => clC (cl.getD i default))) (fun _ => by kernel_rfl) ⟨(by omega), ⟨(fun _ _ => ⟨rfl, (Go.Avm.Pack.c_Check_t _ _ _ _ _ (by omega) (by omega) (by omega))⟩), ⟨fun h => (nomatch h), fun _ => ⟨(by omega), ⟨(by omega), ⟨(fun c hc => match c, hc with | 0, _ => (by kernel_rfl) | 1, _ => (by kernel_rfl) ), ⟨(by omega), ⟨(fun _ _ => ⟨rfl, (hcc _ _)⟩), ⟨(by omega), ⟨(fun _ _ => ⟨rfl, (does_bool hb (Go.Avm.Pack.c_kept _ _ _ (KL.mk cl Fz.auto) _ _ (by omega) (by omega) (by omega) (by simp at * <;> omega)))⟩), ⟨fun _ => ?_, fun h => (nomatch h)⟩⟩⟩⟩⟩⟩⟩⟩⟩⟩⟩
     refine (retQ_le (retQ_drop _ _ rfl trivial ⟨⟨trivial, trivial⟩, trivial⟩ rfl) (Le.tup (fun j hj => match j, hj with | 0, _ => Le.nil_may | 1, _ => (Le.of_eq (by kernel_rfl)) )))
   | false =>
     obtain ⟨K, hK⟩ : ∃ K, coreAt (keptB x gl.l) cl.length cl = K := ⟨_, rfl⟩
     rw [if_neg (by decide), hK]
     refine spec_of_wp (nt := 41) (rs := [.tmp 4, .tmp 5]) (k0 := 0) (by kernel_rfl) (by kernel_rfl) (by kernel_rfl) rfl ?_
     refine vcQ [] (lkL [(0, [1, 2]), (1, [1, 2, 13]), (2, [4, 5]), (3, [6]), (4, [6, 7]), (5, [6, 7, 21]), (6, [4, 5]), (7, [6, 7, 8])]) (lkL [(1, [(2, ROrc.pcall (int i64 0))]), (3, [(4, ROrc.val (Orc.obj (nth [encPacks x, encR gl])))]), (4, [(1, ROrc.pcall (encC (KL.mk cl Fz.auto)))]), (5, [(2, ROrc.pcall (AV.bool false))])]) (fun Q => (fun (u1 : AV) => (fun (u2 : AV) => (fun (u3 : List AObj) => (fun (u4 : Int) => 1 ≤ 1 ∧ (∀ (hp : List AObj) (g : R.σ), true = true ∧ Does Tryd.prog R 47 [encIx x, encR gl] hp g (ret (int i64 0)) hp g) ∧ (false = true → Q AEx.ret (St.mk [(4, u2), (5, int i64 2)] [cells false 1 (nth [encPacks x])] g)) ∧ (false = false → 1 ≤ 1 ∧ 2 ≤ 2 ∧ (∀ (c : Nat), c < 2 → nth [encPacks x, encR gl] c = over (nth [u2, u2]) 0 2 (List.brecOn (motive := fun (x : List AV) => Nat → AV) [encPacks x, encR gl] nth._f) c) ∧ 2 ≤ 2 ∧ (∀ (hp : List AObj) (g : R.σ), true = true ∧ Does Tryd.prog R 53 [encMkt x gl] hp g (ret u1) hp g) ∧ 2 ≤ 2 ∧ (∀ (hp : List AObj) (g : R.σ), true = true ∧ Does Tryd.prog R 60 [encMkt x gl, u1] hp g (ret (AV.bool false)) hp g) ∧ (false = true → Q AEx.ret (St.mk [(4, u2), (5, int i64 5)] u3 g)) ∧ (false = false → (-9223372036854775808 ≤ u4 ∧ u4 ≤ 9223372036854775807) ∧ Wp Tryd.prog R 41 0 Rd.top (bodyOf Tryd.prog 20) [1, 1, 1, 1, 1, 0, 1, 0] (contQ Tryd.prog R 41 0 Rd.top (bodyOf Tryd.prog 20) Q [Kont.blk 0, Kont.seq [1, 1, 1, 1, 1, 1]]) (St.mk [(6, ref 1 0), (7, u1), (8, int i64 u4)] u3 g)))) ((cl.length : Int) - 1)) ([cells false 1 (nth [encPacks x]), cells false 2 (nth [encPacks x, encR gl])])) (fz Fz.nil 0 0 fun _ _ => any)) (fz Fz.auto 4 (cl.length) fun (i : Nat) => clC (cl.getD i default))) (fun _ => by kernel_rfl) ⟨(by omega), ⟨(fun _ _ => ⟨rfl, (Go.Avm.Pack.c_Check_t _ _ _ _ _ (by omega) (by omega) (by omega))⟩), ⟨fun h => (nomatch h), fun _ => ⟨(by omega), ⟨(by omega), ⟨(fun c hc => match c, hc with | 0, _ => (by kernel_rfl) | 1, _ => (by kernel_rfl) ), ⟨(by omega), ⟨(fun _ _ => ⟨rfl, (hcc _ _)⟩), ⟨(by omega), ⟨(fun _ _ => ⟨rfl, (does_bool hb (Go.Avm.Pack.c_kept _ _ _ (KL.mk cl Fz.auto) _ _ (by omega) (by omega) (by omega) (by simp at * <;> omega)))⟩), ⟨fun h => (nomatch h), fun _ => ⟨(by omega), ?_⟩⟩⟩⟩⟩⟩⟩⟩⟩⟩⟩⟩
     refine (wp_loop (by kernel_rfl) (fun (y : Nat × List Clause) => ⟨[(6, ref 1 0), (7, encC ⟨y.2, .may⟩), (8, .int .i64 ((y.1 : Int) - 1))], [cells false 1 (nth [encPacks x]), cells false 2 (nth [encPacks x, encR gl])], g⟩) (fun (y : Nat × List Clause) => (y.1 ≤ y.2.length ∧ y.2.length < 10000 ∧ (∀ c ∈ y.2, thereC x gl.l c) ∧ coreAt (keptB x gl.l) y.1 y.2 = K)) (fun (y : Nat × List Clause) => (y.1)) ((cl.length, cl) : Nat × List Clause) (to_fr ⟨(Le.refl _), ⟨(leK_ok rfl (fun _ _ _ _ => rfl)), ⟨(Le.refl _), trivial⟩⟩⟩ rfl rfl) ?_ (fun y hi => ?_))
     ·exact ⟨Nat.le_refl _, hll, hl, hK⟩
     ·obtain ⟨h1, h2, h3, h4⟩ := hi
      have hz : (y.1 : Int) - 1 ≥ 0 → ((y.1 : Int) - 1).toNat = y.1 - 1 := fun h => by omega
      have hK1 : (y.1 : Int) - 1 ≥ 0 → coreAt (keptB x gl.l) (y.1 - 1) (if keptB x gl.l (y.2.eraseIdx (y.1 - 1)) then y.2 else y.2.eraseIdx (y.1 - 1)) = K := fun h => by
       rw [← h4]
       obtain ⟨i, hi⟩ : ∃ i, y.1 = i + 1 := ⟨y.1 - 1, by omega⟩
       rw [hi]; rfl
      have hle : (y.2.eraseIdx ((y.1 : Int) - 1).toNat).length ≤ y.2.length := (List.eraseIdx_sublist _ _).length_le
      have hli : (y.1 : Int) - 1 ≥ 0 → (y.2.eraseIdx ((y.1 : Int) - 1).toNat).length = y.2.length - 1 := fun h => by rw [List.length_eraseIdx, if_pos (by omega)]
      have h3' : ∀ c ∈ y.2.eraseIdx ((y.1 : Int) - 1).toNat, thereC x gl.l c := fun c hc => h3 c ((List.eraseIdx_sublist _ _).subset hc)
      refine vcQ [] (lkL [(8, [6, 7, 8, 26]), (10, [6, 7, 8, 9]), (11, [6, 7, 8, 9, 38]), (12, [6, 7, 8]), (9, [6, 7, 8])]) (lkL [(10, [(1, ROrc.call (sl 3 0 (y.2.length) (y.2.length) false 4) [cells false 1 (nth [encPacks x]), cells false 2 (nth [encPacks x, encR gl]), dead, cells false ((KL.mk y.2 Fz.may).l.length * 4) (clsL (KL.mk y.2 Fz.may).l)] g), (5, ROrc.call (fz Fz.may 4 ((List.eraseIdx y.2 (((y.fst : Int) - 1).toNat)).length) fun (i : Nat) => clC ((List.eraseIdx y.2 (((y.fst : Int) - 1).toNat)).getD i default)) [cells false 1 (nth [encPacks x]), cells false 2 (nth [encPacks x, encR gl]), dead, dead] g)]), (11, [(2, ROrc.pcall (AV.bool (keptB x gl.l (KL.mk (List.eraseIdx y.2 (((y.fst : Int) - 1).toNat)) Fz.may).l)))])]) (fun Q => (fun (u1 : Int) => (fun (u2 : AV) => (fun (u3 : AObj) => (fun (u4 : AObj) => (fun (u5 : AV) => (fun (u6 : Bool) => (fun (u7 : Nat) => (decide (u1 ≥ 0) = true → (true = true ∧ Does Tryd.prog R 62 [u5] [u4, u3] g (ret (sl 3 0 u7 u7 false 4)) [u4, u3, dead, cells false (u7 * 4) (clsL y.2)] g) ∧ (-9223372036854775808 ≤ u1 + 1 ∧ u1 + 1 ≤ 9223372036854775807) ∧ (true = true ∧ Does Tryd.prog R 61 [sl 3 0 u7 u7 false 4, int i64 u1, int i64 (u1 + 1)] [u4, u3, dead, cells false (u7 * 4) (clsL y.2)] g (ret u2) [u4, u3, dead, dead] g) ∧ 2 ≤ 2 ∧ (∀ (hp : List AObj) (g : R.σ), true = true ∧ Does Tryd.prog R 60 [encMkt x gl, u2] hp g (ret (AV.bool u6)) hp g) ∧ ((!u6) = true → (-9223372036854775808 ≤ u1 - 1 ∧ u1 - 1 ≤ 9223372036854775807) ∧ Q AEx.normal (St.mk [(6, ref 1 0), (7, u2), (8, int i64 (u1 - 1))] [u4, u3, dead, dead] g)) ∧ ((!u6) = false → (-9223372036854775808 ≤ u1 - 1 ∧ u1 - 1 ≤ 9223372036854775807) ∧ Q AEx.normal (St.mk [(6, ref 1 0), (7, u5), (8, int i64 (u1 - 1))] [u4, u3, dead, dead] g))) ∧ (decide (u1 ≥ 0) = false → Q (AEx.exit 0) (St.mk [(6, ref 1 0), (7, u5), (8, int i64 u1), (26, AV.bool (decide (u1 ≥ 0)))] [u4, u3] g))) (y.2.length)) (keptB x gl.l (List.eraseIdx y.2 (u1.toNat)))) (fz Fz.may 4 (y.snd.length) fun (i : Nat) => clC (y.snd.getD i default))) (cells false 1 (nth [encPacks x]))) (cells false 2 (nth [encPacks x, encR gl]))) (fz Fz.may 4 ((List.eraseIdx y.2 (u1.toNat)).length) fun (i : Nat) => clC ((List.eraseIdx y.2 (u1.toNat)).getD i default))) ((y.fst : Int) - 1)) (fun _ => by kernel_rfl) ⟨fun c1 => have c1 : (y.fst : Int) - 1 ≥ 0 := (of_decide_eq_true c1); ⟨⟨rfl, (does_sub' [] 2 (fun R g => Go.Avm.Pack.c_CloneC R (KL.mk y.2 Fz.may) g ?_ (by omega)) rfl rfl rfl (by exact trivial) (by exact trivial) (by exact ⟨le_ren (by exact trivial), trivial⟩) (by exact (Le.refl _)) (by exact ⟨LeO.rflc, ⟨LeO.rflc, ⟨trivial, ⟨⟨rfl, Nat.le_refl _, fun j hj => le_unren (by first | exact trivial | apply Go.Avm.Pack.below_clsL)⟩, trivial⟩⟩⟩⟩))⟩, ⟨(by omega), ⟨⟨rfl, (does_sub' [3] 4 (fun R g => Go.Avm.Pack.c_Delete R (y.2) ((y.fst : Int) - 1) g (by simp at * <;> omega) ?_ (by omega)) rfl rfl rfl (by exact ⟨⟨rfl, Nat.le_refl _, fun j hj => le_ren (by first | exact trivial | apply Go.Avm.Pack.below_clsL)⟩, trivial⟩) (by exact ⟨by omega, trivial⟩) (by exact ⟨(Le.refl _), ⟨le_ren (by exact trivial), ⟨le_ren (by exact trivial), trivial⟩⟩⟩) (by exact le_unren (by exact trivial)) (by exact ⟨LeO.rflc, ⟨LeO.rflc, ⟨trivial, ⟨trivial, trivial⟩⟩⟩⟩))⟩, ⟨(by omega), ⟨(fun _ _ => ⟨rfl, (Go.Avm.Pack.c_kept _ _ _ (KL.mk (List.eraseIdx y.2 (((y.fst : Int) - 1).toNat)) Fz.may) _ _ (by omega) (by omega) (by omega) ?_)⟩), ⟨fun c2 => have c2 : keptB x gl.l (List.eraseIdx y.2 (((y.fst : Int) - 1).toNat)) = false := ((Bool.not_eq_true' _).mp c2); ⟨(by omega), ?_⟩, fun c2 => have c2 : keptB x gl.l (List.eraseIdx y.2 (((y.fst : Int) - 1).toNat)) = true := ((Bool.not_eq_false' _).mp c2); ⟨(by omega), ?_⟩⟩⟩⟩⟩⟩⟩, fun c1 => have c1 : ¬(y.fst : Int) - 1 ≥ 0 := (of_decide_eq_false c1); ?_⟩
      ·show 0 < y.2.length
       omega
      ·omega
      ·exact Nat.lt_of_le_of_lt hle (by omega)
      ·refine (next_round (y.1 - 1, y.2.eraseIdx ((y.1 : Int) - 1).toNat) (to_sel [0, 1] 4 rfl rfl rfl rfl rfl ⟨(Le.refl _), ⟨(Le.refl _), ⟨Le.of_eq ?_, trivial⟩⟩⟩ ⟨⟨rfl, Nat.le_refl _, fun j hj => match j, hj with | 0, _ => (Le.refl _) ⟩, ⟨⟨rfl, Nat.le_refl _, fun j hj => match j, hj with | 0, _ => (Le.refl _) | 1, _ => (Le.refl _) ⟩, trivial⟩⟩) ?_ ?_)
       ·show AV.int .i64 _ = AV.int .i64 (((y.1 - 1 : Nat) : Int) - 1)
        congr 1
        omega
       ·have hK1 := hK1 c1
        rw [hz c1] at c2 ⊢
        rw [c2] at hK1
        refine ⟨?_, Nat.lt_of_le_of_lt ?_ h2, ?_, hK1⟩
        ·show y.1 - 1 ≤ (y.2.eraseIdx (y.1 - 1)).length
         have := hli c1
         rw [hz c1] at this
         omega
        ·rw [hz c1] at hle; exact hle
        ·rw [hz c1] at h3'; exact h3'
       ·show y.1 - 1 < y.1
        omega
      ·refine (next_round (y.1 - 1, y.2) (to_sel [0, 1] 4 rfl rfl rfl rfl rfl ⟨(Le.refl _), ⟨(Le.refl _), ⟨Le.of_eq ?_, trivial⟩⟩⟩ ⟨⟨rfl, Nat.le_refl _, fun j hj => match j, hj with | 0, _ => (Le.refl _) ⟩, ⟨⟨rfl, Nat.le_refl _, fun j hj => match j, hj with | 0, _ => (Le.refl _) | 1, _ => (Le.refl _) ⟩, trivial⟩⟩) ?_ ?_)
       ·show AV.int .i64 _ = AV.int .i64 (((y.1 - 1 : Nat) : Int) - 1)
        congr 1
        omega
       ·have hK1 := hK1 c1
        rw [hz c1] at c2
        rw [c2] at hK1
        exact ⟨by show y.1 - 1 ≤ y.2.length; omega, h2, h3, hK1⟩
       ·show y.1 - 1 < y.1
        omega
      ·have e0 : y.1 = 0 := by omega
       rw [e0] at h4
       have h4 : y.2 = K := h4
       rw [← h4]
       refine ⟨_, To.refl _, vcQ [] (lkL [(13, [4, 5])]) (fun _ => []) (fun Q => Q AEx.ret (St.mk [(4, fz Fz.may 4 (y.snd.length) fun (i : Nat) => clC (y.snd.getD i default)), (5, int i64 0)] [cells false 1 (nth [encPacks x]), cells false 2 (nth [encPacks x, encR gl])] g)) (fun _ => by kernel_rfl) (?_)⟩
       refine (retQ_le (retQ_drop _ _ rfl trivial ⟨⟨trivial, trivial⟩, trivial⟩ rfl) (Le.of_eq (by kernel_rfl)))
end Go.Avm.Pack
namespace Go.Avm.Pack
open Go Go.Avm Go.Proofs
open Go.IntKind (i64 u64)
open Go.Avm.AV (int bool any fz fp sl ow ref fn ifc val agg tup)
open Go.Avm.AObj (cells dead)
open Go.Avm.Oc (ret)
set_option maxRecDepth 4000
def rkeptB (x : Ix) (gl : List Rng) (l : List Clause) : Bool := !(Nat.beq (searchR x gl l false []).1.length 0)
end Go.Avm.Pack
namespace Go.Avm.Pack
open Go Go.Avm Go.Proofs
open Go.IntKind (i64 u64)
open Go.Avm.AV (int bool any fz fp sl ow ref fn ifc val agg tup)
open Go.Avm.AObj (cells dead)
open Go.Avm.Oc (ret)
set_option maxRecDepth 4000
def kv (p : Nat → Int) : Value := .agg #[.int .i64 (p 0), .int .i64 (p 1), .int .i64 (p 2), .int .i64 (p 3), .int .i64 (p 4), .int .i64 (p 5), .int .i64 (p 6), .int .i64 (p 7)]
theorem kv_inj {p q : Nat → Int} (h : kv p = kv q) : ∀ j, j < 8 → p j = q j := by
 unfold kv at h
 simp only [Value.agg.injEq, Array.mk.injEq, List.cons.injEq, Value.int.injEq, true_and, and_true] at h
 intro j hj
 match j, hj with
 | 0, _ => exact h.1
 | 1, _ => exact h.2.1
 | 2, _ => exact h.2.2.1
 | 3, _ => exact h.2.2.2.1
 | 4, _ => exact h.2.2.2.2.1
 | 5, _ => exact h.2.2.2.2.2.1
 | 6, _ => exact h.2.2.2.2.2.2.1
 | 7, _ => exact h.2.2.2.2.2.2.2
theorem kv_congr {p q : Nat → Int} (h : ∀ j, j < 8 → p j = q j) : kv p = kv q := by
 unfold kv
 rw [h 0 (by omega), h 1 (by omega), h 2 (by omega), h 3 (by omega), h 4 (by omega), h 5 (by omega), h 6 (by omega), h 7 (by omega)]
def fitP (p : Nat → Int) : Prop := ∀ j, j < 8 → -100 ≤ p j ∧ p j ≤ 100
theorem plan_law : WideMaps.KeyLaw Tryd.prog 89 := deep_law_laid (by kernel_rfl) (m := 2) (by omega) (of_decide_eq_true (by kernel_rfl)) (by kernel_rfl) (by kernel_rfl)
theorem plan_keyed : Maps.Keyed Tryd.prog 89 := Maps.Keyed.of_law plan_law
theorem wf_fit {n : Int} (h : -100 ≤ n ∧ n ≤ 100) : (Lit.int .i64 n).wf = true := by
 show (decide (IntKind.i64.min ≤ n) && decide (n ≤ IntKind.i64.max)) = true
 rw [Bool.and_eq_true]
 exact ⟨decide_eq_true (Int.le_trans (by decide) h.1), decide_eq_true (Int.le_trans h.2 (by decide))⟩
theorem u_plan : Tryd.prog.underlying 89 = some (.array 8 3) := by kernel_rfl
theorem u_int : Tryd.prog.underlying 3 = some (.int .i64) := by kernel_rfl
theorem c_plan : Tryd.prog.cellsOf 89 = 8 := by kernel_rfl
theorem c_int : Tryd.prog.cellsOf 3 = 1 := by kernel_rfl
theorem k_plan : Tryd.prog.keyType 89 = true := by kernel_rfl
theorem sz_types : ∃ n, Tryd.prog.types.size + 1 = n + 2 := ⟨Tryd.prog.types.size - 1, by have : 0 < Tryd.prog.types.size := of_decide_eq_true (by kernel_rfl); omega⟩
theorem key_plan {p : Nat → Int} (h : fitP p) : ∃ l, keyOf Tryd.prog 89 (kv p) = some l := by
 obtain ⟨n, hn⟩ := sz_types
 have w := fun j hj => wf_fit (h j hj)
 have one : ∀ a : Int, (Lit.int .i64 a).wf = true → Tryd.prog.keyLits (n + 1) 3 [.int .i64 a] = some [.int .i64 a] := fun a ha => by
  simp only [Program.keyLits, u_int]
  rw [if_pos ⟨trivial, ha⟩]
 unfold keyOf
 rw [u_plan, k_plan, hn]
 have hf : Value.formed Tryd.prog 89 (kv p) = true := by
  simp [kv, Value.formed, u_plan, c_plan]
 rw [hf]
 have hk : Tryd.prog.keyLits (n + 2) 89 (kv p).cells.toList = some [.int .i64 (p 0), .int .i64 (p 1), .int .i64 (p 2), .int .i64 (p 3), .int .i64 (p 4), .int .i64 (p 5), .int .i64 (p 6), .int .i64 (p 7)] := by
  show Tryd.prog.keyLits ((n + 1) + 1) _ _ = _
  unfold Program.keyLits
  rw [u_plan]
  show (if _ then _ else _) = _
  rw [if_pos (by rw [c_plan]; rfl), c_int]
  rw [show List.range 8 = [0, 1, 2, 3, 4, 5, 6, 7] from rfl]
  simp [List.mapM_cons, kv, Value.cells, one _ (w 0 (by omega)), one _ (w 1 (by omega)), one _ (w 2 (by omega)), one _ (w 3 (by omega)), one _ (w 4 (by omega)), one _ (w 5 (by omega)), one _ (w 6 (by omega)), one _ (w 7 (by omega))]
 rw [hk]
 exact ⟨_, rfl⟩
end Go.Avm.Pack
namespace Go.Avm.Pack
open Go Go.Avm Go.Proofs
open Go.IntKind (i64 u64)
open Go.Avm.AV (int bool any fz fp sl ow ref fn ifc val agg tup)
open Go.Avm.AObj (cells dead)
open Go.Avm.Oc (ret)
set_option maxRecDepth 4000
def mapE (es : List ((Nat → Int) × Int)) : List (Value × AV) := es.map fun e => (kv e.1, .int .i64 e.2)
def eq8 (a b : Nat → Int) : Bool := (List.range 8).all fun j => a j == b j
theorem eq8_iff {a b : Nat → Int} : eq8 a b = true ↔ kv a = kv b := by
 unfold eq8
 rw [List.all_eq_true]
 constructor
 ·intro h
  exact kv_congr (fun j hj => by simpa using h j (by simpa using hj))
 ·intro h j hj
  have := kv_inj h j (by simpa using hj)
  simpa using this
def fillP (p old : Nat → Int) (many : Nat) : Nat → Int := fun j => if many ≤ j then old j else p j
def fillU (p old : Nat → Int) (many i : Nat) : Nat → Int := fun j => if many ≤ j ∧ j < i then old j else p j
def farN (p old : Nat → Int) (many : Nat) : Nat := cntN 8 (fun j => fillP p old many j != old j)
def hitB (es : List ((Nat → Int) × Int)) (q : Nat → Int) : Bool := es.any fun e => eq8 e.1 q
def putE (es : List ((Nat → Int) × Int)) (p old : Nat → Int) (many : Nat) : List ((Nat → Int) × Int) := if hitB es (fillP p old many) then es else es ++ [(fillP p old many, (farN p old many : Int))]
def okE (es : List ((Nat → Int) × Int)) (old : Nat → Int) : Prop := ∀ e ∈ es, fitP e.1 ∧ e.2 = (cntN 8 (fun j => e.1 j != old j) : Int)
theorem fit_fill {p old : Nat → Int} {many : Nat} (hp : ∀ j, j < many → -100 ≤ p j ∧ p j ≤ 100) (ho : fitP old) : fitP (fillP p old many) := fun j hj => by
 unfold fillP
 by_cases h : many ≤ j
 ·rw [if_pos h]; exact ho j hj
 ·rw [if_neg h]; exact hp j (by omega)
theorem okE_put {es : List ((Nat → Int) × Int)} {p old : Nat → Int} {many : Nat} (h : okE es old) (hp : ∀ j, j < many → -100 ≤ p j ∧ p j ≤ 100) (ho : fitP old) : okE (putE es p old many) old := by
 unfold putE
 split
 ·exact h
 ·intro e he
  rcases List.mem_append.1 he with he | he
  ·exact h e he
  ·simp at he
   subst he
   exact ⟨fit_fill hp ho, rfl⟩
theorem den_plan {FM : Mem} {ρ : Plc} {q : Nat → Int} {v : Value} (h : Den FM ρ (.agg 8 (fun a => .int .i64 (q a))) v) : v = kv q := by
 obtain ⟨xs, rfl, hl, hx⟩ := h
 have h8 : ∀ j, j < 8 → xs.getD j undef = .int .i64 (q j) := fun j hj => (hx j hj).2
 unfold kv
 congr 1
 refine Array.ext (by rw [hl]; rfl) (fun j h1 h2 => ?_)
 have e : xs[j] = xs.getD j undef := by rw [Array.getD_eq_getD_getElem?, Array.getElem?_eq_getElem h1]; rfl
 rw [e, h8 j (by omega)]
 have h2 : j < 8 := h2
 match j, h2 with
 | 0, _ => rfl
 | 1, _ => rfl
 | 2, _ => rfl
 | 3, _ => rfl
 | 4, _ => rfl
 | 5, _ => rfl
 | 6, _ => rfl
 | 7, _ => rfl
theorem mapE_mem {es : List ((Nat → Int) × Int)} {e : Value × AV} (h : e ∈ mapE es) : ∃ y ∈ es, e = (kv y.1, .int .i64 y.2) := by
 unfold mapE at h
 obtain ⟨y, hy, rfl⟩ := List.mem_map.1 h
 exact ⟨y, hy, rfl⟩
theorem mapE_keys {es : List ((Nat → Int) × Int)} {old : Nat → Int} (h : okE es old) : ∀ e ∈ mapE es, ∃ l, keyOf Tryd.prog 89 e.1 = some l := fun e he => by
 obtain ⟨y, hy, rfl⟩ := mapE_mem he
 exact key_plan (h y hy).1
theorem cnt_congr {n : Nat} {p q : Nat → Bool} (h : ∀ j, j < n → p j = q j) : cntN n p = cntN n q := by
 induction n with
 | zero => rfl
 | succ n ih => rw [cntN_succ, cntN_succ, ih (fun j hj => h j (by omega)), h n (by omega)]
def hpM (old : Nat → Int) (es : List ((Nat → Int) × Int)) : List AObj := [.cells false 8 (fun a => .int .i64 (old a)), .cells false 1 (nth [.mp 2]), .map (mapE es)]
theorem far_hit (R : Res) (p old : Nat → Int) (many : Nat) (es : List ((Nat → Int) × Int)) (g : R.σ) (hm : many ≤ 8) (hp : ∀ j, j < many → -100 ≤ p j ∧ p j ≤ 100) (ho : fitP old) (he : okE es old) (hh : hitB es (fillP p old many) = true) :
  Does Tryd.prog R 57 [encPlan p, .int .i64 many, .ref 0 0, .ref 1 0] (hpM old es) g (.ret (.int .i64 (farN p old many))) (hpM old es) g := by
 refine spec_of_wp (nt := 46) (rs := [.tmp 6]) (k0 := 3) (by kernel_rfl) (by kernel_rfl) (by kernel_rfl) rfl ?_
 refine vcQ [] (lkL [(0, [1, 2, 3, 4]), (1, [2, 3, 4, 7])]) (fun _ => []) (fun Q => Wp Tryd.prog R 46 3 Rd.top (bodyOf Tryd.prog 57) [1, 0, 1, 0] (contQ Tryd.prog R 46 3 Rd.top (bodyOf Tryd.prog 57) Q [Kont.blk 0, Kont.seq [1, 1]]) (St.mk [(2, ref 0 0), (3, ref 1 0), (4, ref 3 0), (7, int i64 (many : Int))] [cells false 8 fun (a : Nat) => int i64 (old a), cells false 1 (nth [AV.mp 2]), AObj.map (mapE es), cells false 8 fun (a : Nat) => int i64 (p a)] g)) (fun _ => by kernel_rfl) (?_)
 refine (wp_loop (by kernel_rfl) (fun (i : Nat) => ⟨[(2, ref 0 0), (3, ref 1 0), (4, ref 3 0), (7, .int .i64 i)], [.cells false 8 (fun a => .int .i64 (old a)), .cells false 1 (nth [.mp 2]), .map (mapE es), .cells false 8 (fun a => .int .i64 (fillU p old many i a))], g⟩) (fun (i : Nat) => (many ≤ i ∧ i ≤ 8)) (fun (i : Nat) => (8 - i)) many (to_le ⟨(Le.refl _), ⟨(Le.refl _), ⟨(Le.refl _), ⟨(Le.refl _), trivial⟩⟩⟩⟩ ⟨LeO.rflc, ⟨LeO.rflc, ⟨rfl, ⟨(LeO.cells (fun j hj => ?_)), trivial⟩⟩⟩⟩ rfl) ?_ (fun i hi => ?_))
 ·show AV.int .i64 (p j) = AV.int .i64 (if _ then _ else _)
  rw [if_neg (by omega)]
 ·omega
 ·refine vcQ [[1, 1]] (lkL [(2, [2, 3, 4, 7, 13]), (4, [2, 3, 4, 7]), (3, [2, 3, 4, 7])]) (fun _ => []) (fun Q => (fun (u1 : Int) => (decide (u1 < 8) = true → (0 ≤ u1 ∧ u1 < (↑8 : Int)) ∧ i + 1 ≤ 8 ∧ (0 ≤ u1 ∧ u1 < (↑8 : Int)) ∧ i + 1 ≤ 8 ∧ (-9223372036854775808 ≤ u1 + 1 ∧ u1 + 1 ≤ 9223372036854775807) ∧ Q AEx.normal (St.mk [(2, ref 0 0), (3, ref 1 0), (4, ref 3 0), (7, int i64 (u1 + 1))] [cells false 8 fun (a : Nat) => int i64 (old a), cells false 1 (nth [AV.mp 2]), AObj.map (mapE es), cells false 8 (over (fun (a : Nat) => int i64 (fillU p old many i a)) i 1 fun (x : Nat) => int i64 (old i))] g)) ∧ (decide (u1 < 8) = false → Q (AEx.exit 0) (St.mk [(2, ref 0 0), (3, ref 1 0), (4, ref 3 0), (7, int i64 u1), (13, AV.bool (decide (u1 < 8)))] [cells false 8 fun (a : Nat) => int i64 (old a), cells false 1 (nth [AV.mp 2]), AObj.map (mapE es), cells false 8 fun (a : Nat) => int i64 (fillU p old many i a)] g))) ((i : Int))) (fun _ => by kernel_rfl) ⟨fun c1 => have c1 : (i : Int) < 8 := (of_decide_eq_true c1); ⟨(by omega), ⟨(by omega), ⟨(by omega), ⟨(by omega), ⟨(by omega), ?_⟩⟩⟩⟩⟩, fun c1 => have c1 : ¬(i : Int) < 8 := (of_decide_eq_false c1); ?_⟩
  ·refine (next_round (i + 1) (to_le ⟨(Le.refl _), ⟨(Le.refl _), ⟨(Le.refl _), ⟨(Le.of_eq (by kernel_rfl)), trivial⟩⟩⟩⟩ ⟨LeO.rflc, ⟨LeO.rflc, ⟨rfl, ⟨(LeO.cells (fun j hj => ?_)), trivial⟩⟩⟩⟩ rfl) ?_ ?_)
   ·rw [over_eq]
    by_cases h : j = i
    ·subst h
     rw [if_pos (by omega)]
     show AV.int .i64 _ = AV.int .i64 (if _ then _ else _)
     rw [if_pos (by omega)]
    ·rw [if_neg (by omega)]
     show AV.int .i64 (if _ then _ else _) = AV.int .i64 (if _ then _ else _)
     by_cases h2 : many ≤ j ∧ j < i
     ·rw [if_pos h2, if_pos (by omega)]
     ·rw [if_neg h2, if_neg (by omega)]
   ·omega
   ·omega
  ·have e8 : i = 8 := by omega
   refine ⟨_, To.refl _, (wp_to (s' := ⟨[(2, ref 0 0), (3, ref 1 0), (4, ref 3 0), (7, int i64 (i : Int)), (13, AV.bool (decide ((i : Int) < 8)))], [.cells false 8 (fun a => .int .i64 (old a)), .cells false 1 (nth [.mp 2]), .map (mapE es), .cells false 8 (fun a => .int .i64 (fillP p old many a))], g⟩) (to_le ⟨(Le.refl _), ⟨(Le.refl _), ⟨(Le.refl _), ⟨(Le.refl _), ⟨(Le.refl _), trivial⟩⟩⟩⟩⟩ ⟨LeO.rflc, ⟨LeO.rflc, ⟨rfl, ⟨(LeO.cells (fun j hj => ?_)), trivial⟩⟩⟩⟩ rfl) ?_)⟩
   ·subst e8
    show AV.int .i64 (if _ then _ else _) = AV.int .i64 (if _ then _ else _)
    by_cases h2 : many ≤ j
    ·rw [if_pos h2, if_pos (by omega)]
    ·rw [if_neg h2, if_neg (by omega)]
   ·refine vcQ [] (lkL [(5, [2, 3, 4, 8, 9]), (6, [2, 3, 4, 8, 27]), (7, [6]), (8, [2, 3, 4, 8, 29])]) (lkL [(5, [(2, ROrc.own (tup 2 (nth [int i64 (↑(farN p old many) : Int), AV.bool true])) [cells false 8 fun (a : Nat) => int i64 (old a), cells false 1 (nth [AV.mp 2]), AObj.map (mapE es), cells false 8 fun (a : Nat) => int i64 (fillP p old many a)] g)])]) (fun Q => (fun (u1 : List AObj) => (fun (u2 : AV) => 1 ≤ 1 ∧ 8 ≤ 8 ∧ OpOk Tryd.prog R (Oper.mk (some 24) (Op.lookup 101 (Operand.tmp 22) (Operand.tmp 23) true) 102 "plan.go:153" #[Edge.mk 0 Ground.data, Edge.mk 1 Ground.data] none) (evO [Row.mk (some 23) none (encPlan (fillP p old many)) false (some []) [3], Row.mk (some 22) none (AV.mp 2) false (some []) [1]] [(2, ref 0 0), (3, ref 1 0), (4, ref 3 0), (7, int i64 (i : Int)), (13, AV.bool (decide ((i : Int) < 8)))] []) u1 g (tup 2 (nth [u2, AV.bool true])) u1 g ∧ (true = true → Q AEx.ret (St.mk [(6, u2)] u1 g)) ∧ (true = false → Wp Tryd.prog R 46 3 Rd.top (bodyOf Tryd.prog 57) [1, 1, 1, 1, 0, 1, 0] (contQ Tryd.prog R 46 3 Rd.top (bodyOf Tryd.prog 57) Q [Kont.blk 2, Kont.seq [1, 1, 1, 1, 1]]) (St.mk [(2, ref 0 0), (3, ref 1 0), (4, ref 3 0), (8, u2), (29, int i64 0)] u1 g))) (int i64 (↑(farN p old many) : Int))) ([cells false 8 fun (a : Nat) => int i64 (old a), cells false 1 (nth [AV.mp 2]), AObj.map (mapE es), cells false 8 fun (a : Nat) => int i64 (fillP p old many a)])) (fun _ => by kernel_rfl) ⟨(by omega), ⟨(by omega), ⟨?_, ⟨fun _ => ?_, fun h => (nomatch h)⟩⟩⟩⟩
    ·refine opOk_look_hit (t := 101) (kt := 89) (vt := 3) (m := .tmp 22) (x := .tmp 23) (ob := 2) (es := mapE es) (kv := kv (fillP p old many)) (d := .int .i64 (farN p old many)) rfl (by kernel_rfl) plan_keyed rfl rfl (fun FM ρ v h => den_plan h) (key_plan (fit_fill hp ho)) (mapE_keys he) ?_ ?_
     ·obtain ⟨e, h1, h2⟩ := List.any_eq_true.1 hh
      exact ⟨(kv e.1, .int .i64 e.2), List.mem_map.2 ⟨e, h1, rfl⟩, eq8_iff.1 h2⟩
     ·intro e h1 h2
      obtain ⟨y, hy, rfl⟩ := mapE_mem h1
      show AV.int .i64 _ = AV.int .i64 _
      rw [(he y hy).2]
      unfold farN
      rw [cnt_congr (fun j hj => by rw [kv_inj h2 j hj])]
    ·refine (retQ_le (retQ_take' 3 _ _ rfl trivial (by omega) trivial ⟨(fun j hj => match j, hj with | 0, _ => trivial | 1, _ => trivial | 2, _ => trivial | 3, _ => trivial | 4, _ => trivial | 5, _ => trivial | 6, _ => trivial | 7, _ => trivial ), ⟨(fun j hj => match j, hj with | 0, _ => (show 3 ≤ 3 by omega) ), trivial⟩⟩ (by kernel_rfl) rfl rfl) (Le.refl _))
theorem tyInt : ∃ ti, tyOf Tryd.prog 3 = some ti ∧ mkv ti.agg ti.size ti.zero = .int .i64 0 := by
 have h : (match tyOf Tryd.prog 3 with | some ti => mkv ti.agg ti.size ti.zero | none => .any) = .int .i64 0 := by kernel_rfl
 cases hx : tyOf Tryd.prog 3 with
 | none => rw [hx] at h; cases h
 | some ti => rw [hx] at h; exact ⟨ti, rfl, h⟩
theorem far_miss (R : Res) (p old : Nat → Int) (many : Nat) (es : List ((Nat → Int) × Int)) (g : R.σ) (hm : many ≤ 8) (hp : ∀ j, j < many → -100 ≤ p j ∧ p j ≤ 100) (ho : fitP old) (he : okE es old) (hh : hitB es (fillP p old many) = false) :
  Does Tryd.prog R 57 [encPlan p, .int .i64 many, .ref 0 0, .ref 1 0] (hpM old es) g (.ret (.int .i64 (farN p old many))) [.cells false 8 (fun a => .int .i64 (old a)), .cells false 1 (nth [.mp 2]), .map (mapE es ++ [(kv (fillP p old many), .int .i64 (farN p old many))])] g := by
 refine spec_of_wp (nt := 46) (rs := [.tmp 6]) (k0 := 3) (by kernel_rfl) (by kernel_rfl) (by kernel_rfl) rfl ?_
 refine vcQ [] (lkL [(0, [1, 2, 3, 4]), (1, [2, 3, 4, 7])]) (fun _ => []) (fun Q => Wp Tryd.prog R 46 3 Rd.top (bodyOf Tryd.prog 57) [1, 0, 1, 0] (contQ Tryd.prog R 46 3 Rd.top (bodyOf Tryd.prog 57) Q [Kont.blk 0, Kont.seq [1, 1]]) (St.mk [(2, ref 0 0), (3, ref 1 0), (4, ref 3 0), (7, int i64 (many : Int))] [cells false 8 fun (a : Nat) => int i64 (old a), cells false 1 (nth [AV.mp 2]), AObj.map (mapE es), cells false 8 fun (a : Nat) => int i64 (p a)] g)) (fun _ => by kernel_rfl) (?_)
 refine (wp_loop (by kernel_rfl) (fun (i : Nat) => ⟨[(2, ref 0 0), (3, ref 1 0), (4, ref 3 0), (7, .int .i64 i)], [.cells false 8 (fun a => .int .i64 (old a)), .cells false 1 (nth [.mp 2]), .map (mapE es), .cells false 8 (fun a => .int .i64 (fillU p old many i a))], g⟩) (fun (i : Nat) => (many ≤ i ∧ i ≤ 8)) (fun (i : Nat) => (8 - i)) many (to_le ⟨(Le.refl _), ⟨(Le.refl _), ⟨(Le.refl _), ⟨(Le.refl _), trivial⟩⟩⟩⟩ ⟨LeO.rflc, ⟨LeO.rflc, ⟨rfl, ⟨(LeO.cells (fun j hj => ?_)), trivial⟩⟩⟩⟩ rfl) ?_ (fun i hi => ?_))
 ·show AV.int .i64 (p j) = AV.int .i64 (if _ then _ else _)
  rw [if_neg (by omega)]
 ·omega
 ·refine vcQ [[1, 1]] (lkL [(2, [2, 3, 4, 7, 13]), (4, [2, 3, 4, 7]), (3, [2, 3, 4, 7])]) (fun _ => []) (fun Q => (fun (u1 : Int) => (decide (u1 < 8) = true → (0 ≤ u1 ∧ u1 < (↑8 : Int)) ∧ i + 1 ≤ 8 ∧ (0 ≤ u1 ∧ u1 < (↑8 : Int)) ∧ i + 1 ≤ 8 ∧ (-9223372036854775808 ≤ u1 + 1 ∧ u1 + 1 ≤ 9223372036854775807) ∧ Q AEx.normal (St.mk [(2, ref 0 0), (3, ref 1 0), (4, ref 3 0), (7, int i64 (u1 + 1))] [cells false 8 fun (a : Nat) => int i64 (old a), cells false 1 (nth [AV.mp 2]), AObj.map (mapE es), cells false 8 (over (fun (a : Nat) => int i64 (fillU p old many i a)) i 1 fun (x : Nat) => int i64 (old i))] g)) ∧ (decide (u1 < 8) = false → Q (AEx.exit 0) (St.mk [(2, ref 0 0), (3, ref 1 0), (4, ref 3 0), (7, int i64 u1), (13, AV.bool (decide (u1 < 8)))] [cells false 8 fun (a : Nat) => int i64 (old a), cells false 1 (nth [AV.mp 2]), AObj.map (mapE es), cells false 8 fun (a : Nat) => int i64 (fillU p old many i a)] g))) ((i : Int))) (fun _ => by kernel_rfl) ⟨fun c1 => have c1 : (i : Int) < 8 := (of_decide_eq_true c1); ⟨(by omega), ⟨(by omega), ⟨(by omega), ⟨(by omega), ⟨(by omega), ?_⟩⟩⟩⟩⟩, fun c1 => have c1 : ¬(i : Int) < 8 := (of_decide_eq_false c1); ?_⟩
  ·refine (next_round (i + 1) (to_le ⟨(Le.refl _), ⟨(Le.refl _), ⟨(Le.refl _), ⟨(Le.of_eq (by kernel_rfl)), trivial⟩⟩⟩⟩ ⟨LeO.rflc, ⟨LeO.rflc, ⟨rfl, ⟨(LeO.cells (fun j hj => ?_)), trivial⟩⟩⟩⟩ rfl) ?_ ?_)
   ·rw [over_eq]
    by_cases h : j = i
    ·subst h
     rw [if_pos (by omega)]
     show AV.int .i64 _ = AV.int .i64 (if _ then _ else _)
     rw [if_pos (by omega)]
    ·rw [if_neg (by omega)]
     show AV.int .i64 (if _ then _ else _) = AV.int .i64 (if _ then _ else _)
     by_cases h2 : many ≤ j ∧ j < i
     ·rw [if_pos h2, if_pos (by omega)]
     ·rw [if_neg h2, if_neg (by omega)]
   ·omega
   ·omega
  ·have e8 : i = 8 := by omega
   refine ⟨_, To.refl _, (wp_to (s' := ⟨[(2, ref 0 0), (3, ref 1 0), (4, ref 3 0), (7, int i64 (i : Int)), (13, AV.bool (decide ((i : Int) < 8)))], [.cells false 8 (fun a => .int .i64 (old a)), .cells false 1 (nth [.mp 2]), .map (mapE es), .cells false 8 (fun a => .int .i64 (fillP p old many a))], g⟩) (to_le ⟨(Le.refl _), ⟨(Le.refl _), ⟨(Le.refl _), ⟨(Le.refl _), ⟨(Le.refl _), trivial⟩⟩⟩⟩⟩ ⟨LeO.rflc, ⟨LeO.rflc, ⟨rfl, ⟨(LeO.cells (fun j hj => ?_)), trivial⟩⟩⟩⟩ rfl) ?_)⟩
   ·subst e8
    show AV.int .i64 (if _ then _ else _) = AV.int .i64 (if _ then _ else _)
    by_cases h2 : many ≤ j
    ·rw [if_pos h2, if_pos (by omega)]
    ·rw [if_neg h2, if_neg (by omega)]
   ·have hno : ∀ e ∈ mapE es, e.1 ≠ kv (fillP p old many) := fun e h1 h2 => by
     obtain ⟨y, hy, rfl⟩ := mapE_mem h1
     have : hitB es (fillP p old many) = true := List.any_eq_true.2 ⟨y, hy, eq8_iff.2 h2⟩
     rw [hh] at this; cases this
    refine vcQ [] (lkL [(5, [2, 3, 4, 8, 9]), (6, [2, 3, 4, 8, 27]), (7, [6]), (8, [2, 3, 4, 8, 29])]) (lkL [(5, [(2, ROrc.own (tup 2 (nth [int i64 0, AV.bool false])) [cells false 8 fun (a : Nat) => int i64 (old a), cells false 1 (nth [AV.mp 2]), AObj.map (mapE es), cells false 8 fun (a : Nat) => int i64 (fillP p old many a)] g)])]) (fun Q => (fun (u1 : List AObj) => 1 ≤ 1 ∧ 8 ≤ 8 ∧ OpOk Tryd.prog R (Oper.mk (some 24) (Op.lookup 101 (Operand.tmp 22) (Operand.tmp 23) true) 102 "plan.go:153" #[Edge.mk 0 Ground.data, Edge.mk 1 Ground.data] none) (evO [Row.mk (some 23) none (encPlan (fillP p old many)) false (some []) [3], Row.mk (some 22) none (AV.mp 2) false (some []) [1]] [(2, ref 0 0), (3, ref 1 0), (4, ref 3 0), (7, int i64 (i : Int)), (13, AV.bool (decide ((i : Int) < 8)))] []) u1 g (tup 2 (nth [int i64 0, AV.bool false])) u1 g ∧ (false = true → Q AEx.ret (St.mk [(6, int i64 0)] u1 g)) ∧ (false = false → Wp Tryd.prog R 46 3 Rd.top (bodyOf Tryd.prog 57) [1, 1, 1, 1, 0, 1, 0] (contQ Tryd.prog R 46 3 Rd.top (bodyOf Tryd.prog 57) Q [Kont.blk 2, Kont.seq [1, 1, 1, 1, 1]]) (St.mk [(2, ref 0 0), (3, ref 1 0), (4, ref 3 0), (8, int i64 0), (29, int i64 0)] u1 g))) ([cells false 8 fun (a : Nat) => int i64 (old a), cells false 1 (nth [AV.mp 2]), AObj.map (mapE es), cells false 8 fun (a : Nat) => int i64 (fillP p old many a)])) (fun _ => by kernel_rfl) ⟨(by omega), ⟨(by omega), ⟨?_, ⟨fun h => (nomatch h), fun _ => ?_⟩⟩⟩⟩
    ·obtain ⟨ti, h1, h2⟩ := tyInt
     exact opOk_look_miss' (t := 101) (kt := 89) (vt := 3) (m := .tmp 22) (x := .tmp 23) (ob := 2) (es := mapE es) (kv := kv (fillP p old many)) (ti := ti) rfl (by kernel_rfl) plan_keyed h1 h2 rfl rfl (fun FM ρ v h => den_plan h) (key_plan (fit_fill hp ho)) (mapE_keys he) hno
    ·refine (wp_loop (by kernel_rfl) (fun (k : Nat) => ⟨[(2, ref 0 0), (3, ref 1 0), (4, ref 3 0), (8, .int .i64 (cntN k (fun j => fillP p old many j != old j))), (29, .int .i64 k)], [cells false 8 fun (a : Nat) => int i64 (old a), cells false 1 (nth [AV.mp 2]), AObj.map (mapE es), cells false 8 fun (a : Nat) => int i64 (fillP p old many a)], g⟩) (fun (k : Nat) => (k ≤ 8)) (fun (k : Nat) => (8 - k)) 0 (to_fr ⟨(Le.refl _), ⟨(Le.refl _), ⟨(Le.refl _), ⟨(Le.of_eq (by kernel_rfl)), ⟨(Le.of_eq (by kernel_rfl)), trivial⟩⟩⟩⟩⟩ rfl rfl) ?_ (fun k hi => ?_))
     ·omega
     ·have hk := cntN_le k (fun j => fillP p old many j != old j)
      refine vcQ [[1, 1, 1, 1, 1]] (lkL [(9, [2, 3, 4, 8, 29, 30]), (10, [2, 3, 4, 8, 10, 29]), (11, [2, 3, 4, 8, 29, 38]), (12, [2, 3, 4, 8, 29]), (13, [2, 3, 4, 8, 29])]) (fun _ => []) (fun Q => (fun (u1 : List AObj) => (fun (u2 : Int) => (fun (u3 : Int) => (decide (u3 < 8) = true → Tables.follows Tryd.prog.toTables Departure.mixedOrders = true ∧ (0 ≤ u3 ∧ u3 < (↑8 : Int)) ∧ k + 1 ≤ 8 ∧ (0 ≤ u3 ∧ u3 < (↑8 : Int)) ∧ k + 1 ≤ 8 ∧ ((fillP p old many k != old k) = true → (-9223372036854775808 ≤ u2 + 1 ∧ u2 + 1 ≤ 9223372036854775807) ∧ (-9223372036854775808 ≤ u3 + 1 ∧ u3 + 1 ≤ 9223372036854775807) ∧ Q AEx.normal (St.mk [(2, ref 0 0), (3, ref 1 0), (4, ref 3 0), (8, int i64 (u2 + 1)), (29, int i64 (u3 + 1))] u1 g)) ∧ ((fillP p old many k != old k) = false → (-9223372036854775808 ≤ u3 + 1 ∧ u3 + 1 ≤ 9223372036854775807) ∧ Q AEx.normal (St.mk [(2, ref 0 0), (3, ref 1 0), (4, ref 3 0), (8, int i64 u2), (29, int i64 (u3 + 1))] u1 g))) ∧ (decide (u3 < 8) = false → Q (AEx.exit 2) (St.mk [(2, ref 0 0), (3, ref 1 0), (4, ref 3 0), (8, int i64 u2), (29, int i64 u3), (30, AV.bool (decide (u3 < 8)))] u1 g))) ((k : Int))) ((↑(cntN k fun (j : Nat) => fillP p old many j != old j) : Int))) ([cells false 8 fun (a : Nat) => int i64 (old a), cells false 1 (nth [AV.mp 2]), AObj.map (mapE es), cells false 8 fun (a : Nat) => int i64 (fillP p old many a)])) (fun _ => by kernel_rfl) ⟨fun c1 => have c1 : (k : Int) < 8 := (of_decide_eq_true c1); ⟨(by kernel_rfl), ⟨(by omega), ⟨(by omega), ⟨(by omega), ⟨(by omega), ⟨fun c2 => have c2 : ¬fillP p old many k = old k := (bne_iff_ne.mp c2); ⟨(by omega), ⟨(by omega), ?_⟩⟩, fun c2 => have c2 : fillP p old many k = old k := (bne_eq_false_iff_eq.mp c2); ⟨(by omega), ?_⟩⟩⟩⟩⟩⟩⟩, fun c1 => have c1 : ¬(k : Int) < 8 := (of_decide_eq_false c1); ?_⟩
      ·refine (next_round (k + 1) (to_fr ⟨(Le.refl _), ⟨(Le.refl _), ⟨(Le.refl _), ⟨(Le.of_eq ?_), ⟨(Le.of_eq (by kernel_rfl)), trivial⟩⟩⟩⟩⟩ rfl rfl) ?_ ?_)
       ·show AV.int .i64 _ = AV.int .i64 _
        rw [cntN_succ, if_pos (by simpa using c2)]
        congr 1
       ·omega
       ·omega
      ·refine (next_round (k + 1) (to_fr ⟨(Le.refl _), ⟨(Le.refl _), ⟨(Le.refl _), ⟨(Le.of_eq ?_), ⟨(Le.of_eq (by kernel_rfl)), trivial⟩⟩⟩⟩⟩ rfl rfl) ?_ ?_)
       ·show AV.int .i64 _ = AV.int .i64 _
        rw [cntN_succ, if_neg (by simpa using c2)]
        congr 1
       ·omega
       ·omega
      ·have ek : k = 8 := by omega
       subst ek
       refine ⟨_, To.refl _, vcQ [] (lkL [(14, [8]), (15, [6])]) (lkL [(14, [(3, ROrc.own any [cells false 8 fun (a : Nat) => int i64 (old a), cells false 1 (nth [AV.mp 2]), AObj.map (mapE es ++ [(kv (fillP p old many), int i64 (↑(farN p old many) : Int))]), cells false 8 fun (a : Nat) => int i64 (fillP p old many a)] g)])]) (fun Q => (fun (u1 : List AObj) => (fun (u2 : AV) => 1 ≤ 1 ∧ 8 ≤ 8 ∧ OpOk Tryd.prog R (Oper.mk none (Op.mapUpdate 101 (Operand.tmp 42) (Operand.tmp 43) (Operand.tmp 44)) 0 "plan.go:162" #[Edge.mk 0 Ground.data, Edge.mk 1 Ground.data, Edge.mk 2 Ground.data, Edge.mk 0 Ground.phase, Edge.mk 1 Ground.phase, Edge.mk 2 Ground.phase] none) (evO [Row.mk (some 44) none u2 false (some []) [], Row.mk (some 43) none (encPlan (fillP p old many)) false (some []) [3], Row.mk (some 42) none (AV.mp 2) false (some []) [1]] [(2, ref 0 0), (3, ref 1 0), (4, ref 3 0), (8, u2), (29, int i64 (↑8 : Int)), (30, AV.bool false)] []) [cells false 8 fun (a : Nat) => int i64 (old a), cells false 1 (nth [AV.mp 2]), AObj.map (mapE es), cells false 8 fun (a : Nat) => int i64 (fillP p old many a)] g any u1 g ∧ Q AEx.ret (St.mk [(6, u2)] u1 g)) (int i64 (↑(cntN 8 fun (j : Nat) => fillP p old many j != old j) : Int))) ([cells false 8 fun (a : Nat) => int i64 (old a), cells false 1 (nth [AV.mp 2]), AObj.map (mapE es ++ [(kv (fillP p old many), int i64 (↑(farN p old many) : Int))]), cells false 8 fun (a : Nat) => int i64 (fillP p old many a)])) (fun _ => by kernel_rfl) ⟨(by omega), ⟨(by omega), ⟨?_, ?_⟩⟩⟩⟩
       ·exact opOk_mapNew (t := 101) (kt := 89) (vt := 3) (m := .tmp 42) (x := .tmp 43) (y := .tmp 44) (ob := 2) (es := mapE es) (kv := kv (fillP p old many)) (d := .int .i64 (farN p old many)) rfl (by kernel_rfl) plan_keyed rfl rfl (fun FM ρ v h => den_plan h) rfl trivial (key_plan (fit_fill hp ho)) (mapE_keys he) hno
       ·refine (retQ_le (retQ_take' 3 _ _ rfl trivial (by omega) trivial ⟨(fun j hj => match j, hj with | 0, _ => trivial | 1, _ => trivial | 2, _ => trivial | 3, _ => trivial | 4, _ => trivial | 5, _ => trivial | 6, _ => trivial | 7, _ => trivial ), ⟨(fun j hj => match j, hj with | 0, _ => (show 3 ≤ 3 by omega) ), trivial⟩⟩ (by kernel_rfl) rfl rfl) (Le.of_eq (by kernel_rfl)))
theorem c_far (R : Res) (p old : Nat → Int) (many : Nat) (es : List ((Nat → Int) × Int)) (g : R.σ) (hm : many ≤ 8) (hp : ∀ j, j < many → -100 ≤ p j ∧ p j ≤ 100) (ho : fitP old) (he : okE es old) :
  Does Tryd.prog R 57 [encPlan p, .int .i64 many, .ref 0 0, .ref 1 0] (hpM old es) g (.ret (.int .i64 (farN p old many))) (hpM old (putE es p old many)) g := by
 cases hh : hitB es (fillP p old many) with
 | true =>
   have e : putE es p old many = es := by unfold putE; rw [hh]; rfl
   rw [e]
   exact far_hit R p old many es g hm hp ho he hh
 | false =>
   have e : hpM old (putE es p old many) = [.cells false 8 (fun a => .int .i64 (old a)), .cells false 1 (nth [.mp 2]), .map (mapE es ++ [(kv (fillP p old many), .int .i64 (farN p old many))])] := by
    unfold hpM putE mapE
    rw [hh]
    simp
   rw [e]
   exact far_miss R p old many es g hm hp ho he hh
end Go.Avm.Pack
namespace Go.Avm.Pack
open Go Go.Avm Go.Proofs
open Go.IntKind (i64 u64)
open Go.Avm.AV (int bool any fz fp sl ow ref fn ifc val agg tup)
open Go.Avm.AObj (cells dead)
open Go.Avm.Oc (ret)
set_option maxRecDepth 4000
structure NearS where
 es : List ((Nat → Int) × Int)
 out : List Int
 best : Int
def hpC (x : Ix) (gl : KL Rng) (old : Nat → Int) (b : NearS) : List AObj := [.cells false 1 (nth [encPacks x]), .cells false 2 (nth [encPacks x, encR gl]), .cells false 8 (fun a => .int .i64 (old a)), .cells false 1 (nth [.int .i64 b.best]), .map (mapE b.es), .cells false 1 (nth [.mp 4]), .cells false 1 (nth [.fn 57 0 (nth []) 2 (nth [.ref 2 0, .ref 5 0])]), .cells false 1 (nth [encI ⟨b.out, .auto⟩])]
theorem Closest2 (R : Res) (x : Ix) (gl : KL Rng) (old : Nat → Int) (b : NearS) (p : Nat → Int) (m : Nat) (g : R.σ) (hm : m ≤ 8) (hp : ∀ j, j < m → -100 ≤ p j ∧ p j ≤ 100) (ho : fitP old) (he : okE b.es old) :
  Does Tryd.prog R 58 [encPlan p, .int .i64 m, .ref 6 0, .ref 3 0] (hpC x gl old b) g (.ret (.bool (decide ((farN p old m : Int) < b.best)))) (hpC x gl old ⟨putE b.es p old m, b.out, b.best⟩) g := by
 refine spec_of_wp (nt := 13) (rs := [.tmp 6]) (k0 := 8) (by kernel_rfl) (by kernel_rfl) (by kernel_rfl) rfl ?_
 refine vcQ [] (lkL [(0, [1, 2, 3, 4]), (1, [6])]) (lkL [(1, [(3, ROrc.callS (int i64 (↑(farN p old m) : Int)) [(4, AObj.map (mapE (putE b.es p old m)))] g)])]) (fun Q => (fun (u1 : List AObj) => (fun (u2 : List AObj) => Tables.follows Tryd.prog.toTables Departure.mixedOrders = true ∧ 1 ≤ 1 ∧ 8 ≤ 8 ∧ (true = true ∧ Does Tryd.prog R 57 [encPlan p, int i64 (m : Int), ref 2 0, ref 5 0] (cells false 1 (nth [encPacks x]) :: cells false 2 (nth [encPacks x, encR gl]) :: (cells false 8 fun (a : Nat) => int i64 (old a)) :: cells false 1 (nth [int i64 b.best]) :: AObj.map (mapE b.es) :: u1) g (ret (int i64 (↑(farN p old m) : Int))) u2 g) ∧ 1 ≤ 1 ∧ Q AEx.ret (St.mk [(6, AV.bool (decide ((↑(farN p old m) : Int) < b.best)))] u2 g)) (cells false 1 (nth [encPacks x]) :: cells false 2 (nth [encPacks x, encR gl]) :: (cells false 8 fun (a : Nat) => int i64 (old a)) :: cells false 1 (nth [int i64 b.best]) :: AObj.map (mapE (putE b.es p old m)) :: u1)) ([cells false 1 (nth [AV.mp 4]), cells false 1 (nth [fn 57 0 (nth []) 2 (nth [ref 2 0, ref 5 0])]), cells false 1 (nth [fz Fz.auto 1 (b.out.length) fun (i x : Nat) => int i64 (b.out.getD i 0)]), cells false 8 fun (a : Nat) => int i64 (p a)])) (fun _ => by kernel_rfl) ⟨(by kernel_rfl), ⟨(by omega), ⟨(by omega), ⟨⟨rfl, (does_sub' [2, 5, 4] 9 (fun R g => Go.Avm.Pack.c_far R (p) (old) (m) (b.es) g (by omega) (by omega) (by omega) (by omega)) rfl rfl rfl (by exact ⟨⟨rfl, Nat.le_refl _, fun j hj => match j, hj with | 0, _ => (Le.refl _) | 1, _ => (Le.refl _) | 2, _ => (Le.refl _) | 3, _ => (Le.refl _) | 4, _ => (Le.refl _) | 5, _ => (Le.refl _) | 6, _ => (Le.refl _) | 7, _ => (Le.refl _) ⟩, ⟨⟨rfl, Nat.le_refl _, fun j hj => match j, hj with | 0, _ => (Le.refl _) ⟩, ⟨rfl, trivial⟩⟩⟩) (by exact ⟨by omega, ⟨by omega, trivial⟩⟩) (by exact ⟨le_ren (by exact ⟨⟨⟨⟨⟨⟨⟨⟨trivial, trivial⟩, trivial⟩, trivial⟩, trivial⟩, trivial⟩, trivial⟩, trivial⟩, trivial⟩), ⟨le_ren (by exact trivial), ⟨(Le.refl _), ⟨(Le.refl _), trivial⟩⟩⟩⟩) (by exact le_unren (by exact trivial)) (by exact ⟨LeO.rflc, ⟨LeO.rflc, ⟨⟨rfl, Nat.le_refl _, fun j hj => match j, hj with | 0, _ => (Le.refl _) | 1, _ => (Le.refl _) | 2, _ => (Le.refl _) | 3, _ => (Le.refl _) | 4, _ => (Le.refl _) | 5, _ => (Le.refl _) | 6, _ => (Le.refl _) | 7, _ => (Le.refl _) ⟩, ⟨LeO.rflc, ⟨rfl, ⟨⟨rfl, Nat.le_refl _, fun j hj => match j, hj with | 0, _ => (Le.refl _) ⟩, ⟨LeO.rflc, ⟨LeO.rflc, ⟨LeO.rflc, trivial⟩⟩⟩⟩⟩⟩⟩⟩⟩))⟩, ⟨(by omega), ?_⟩⟩⟩⟩⟩
 refine (retQ_le (retQ_take' 8 _ _ rfl trivial (by omega) trivial ⟨(fun j hj => match j, hj with | 0, _ => trivial ), ⟨(fun j hj => match j, hj with | 0, _ => trivial | 1, _ => trivial ), ⟨(fun j hj => match j, hj with | 0, _ => trivial | 1, _ => trivial | 2, _ => trivial | 3, _ => trivial | 4, _ => trivial | 5, _ => trivial | 6, _ => trivial | 7, _ => trivial ), ⟨(fun j hj => match j, hj with | 0, _ => trivial ), ⟨(fun j hj => match j, hj with | 0, _ => (show 5 ≤ 8 by omega) ), ⟨(fun j hj => match j, hj with | 0, _ => ⟨trivial, ⟨⟨trivial, (show 3 ≤ 8 by omega)⟩, (show 6 ≤ 8 by omega)⟩⟩ ), ⟨(fun j hj => match j, hj with | 0, _ => trivial ), trivial⟩⟩⟩⟩⟩⟩⟩ (by kernel_rfl) rfl rfl) (Le.refl _))
theorem Closest3 (R : Res) (x : Ix) (gl : KL Rng) (old : Nat → Int) (b : NearS) (p : Nat → Int) (g : R.σ) (hp : ∀ j, j < x.l.length → -100 ≤ p j ∧ p j ≤ 100) (ho : fitP old) (he : okE b.es old)
  (h1 : 1 ≤ x.l.length) (h8 : x.l.length ≤ 8) (h : inP x p) (hw : wfN x p) (hwb : wfB x p) (hl : smallN x p) (hlb : smallB' x p) (hg : gl.l.length < 1000000) (hgl : ∀ r ∈ gl.l, 0 ≤ r.pack ∧ r.pack < x.l.length) :
  Does Tryd.prog R 59 [encPlan p, .ref 1 0, .ref 0 0, .ref 6 0, .ref 7 0, .ref 3 0] (hpC x gl old b) g (.ret (.bool true)) (hpC x gl old (if fineB x gl.l p then ⟨putE b.es p old x.l.length, planL p x.l.length, farN p old x.l.length⟩ else b)) g := by
 cases hf : fineB x gl.l p with
 | true =>
   rw [if_pos rfl]
   refine spec_of_wp (nt := 24) (rs := [.tmp 7]) (k0 := 8) (by kernel_rfl) (by kernel_rfl) (by kernel_rfl) rfl ?_
   refine vcQ [] (lkL [(0, [1, 2, 3, 4, 5, 6]), (1, [2, 3, 4, 5, 6, 12]), (3, [7])]) (lkL [(1, [(2, ROrc.pcall (agg 2 (nth [int i64 (faultOf x gl.l p).fst, int i64 (faultOf x gl.l p).snd])))]), (2, [(4, ROrc.kcall (fz Fz.auto 1 ((planL p (x.l.length - 0)).length) fun (i x_1 : Nat) => int i64 ((planL p (x.l.length - 0)).getD i 0))), (10, ROrc.callS (int i64 (↑(farN p old (x.l.length)) : Int)) [(4, AObj.map (mapE (putE b.es p old (x.l.length))))] g), (11, ROrc.val (Orc.obj (nth [fz Fz.auto 1 ((planL p (x.l.length - 0)).length) fun (i x_1 : Nat) => int i64 ((planL p (x.l.length - 0)).getD i 0)]))), (12, ROrc.val (Orc.obj (nth [int i64 (↑(farN p old (x.l.length)) : Int)])))])]) (fun Q => (fun (u1 : List AObj) => (fun (u2 : AV) => (fun (u3 : AV) => (fun (u4 : AV) => (fun (u5 : Bool) => (fun (u6 : Nat) => (fun (u7 : AObj) => 2 ≤ 2 ∧ 8 ≤ 8 ∧ (∀ (hp : List AObj) (g : R.σ), true = true ∧ Does Tryd.prog R 49 [encMkt x gl, encPlan p] hp g (ret (agg 2 (nth [int i64 (faultOf x gl.l p).fst, int i64 (faultOf x gl.l p).snd]))) hp g) ∧ (u5 = true → Tables.follows Tryd.prog.toTables Departure.mixedOrders = true ∧ 1 ≤ 1 ∧ (0 ≤ (u6 : Int) ∧ (u6 : Int) ≤ (↑8 : Int)) ∧ 0 < 8 ∧ 8 ≤ 8 ∧ 0 < 8 ∧ (true = true ∧ Does Tryd.prog R 56 [sl 8 0 (u6 - 0) 8 true 1] u1 g (ret u2) u1 g) ∧ 1 ≤ 1 ∧ 8 ≤ 8 ∧ 1 ≤ 1 ∧ (true = true ∧ Does Tryd.prog R 57 [encPlan p, int i64 (u6 : Int), ref 2 0, ref 5 0] u1 g (ret u3) [cells false 1 (nth [encPacks x]), cells false 2 (nth [encPacks x, encR gl]), cells false 8 fun (a : Nat) => int i64 (old a), cells false 1 (nth [int i64 b.best]), AObj.map (mapE (putE b.es p old u6)), cells false 1 (nth [AV.mp 4]), u7, cells false 1 (nth [u4]), cells false 8 fun (a : Nat) => int i64 (p a)] g) ∧ 1 ≤ 1 ∧ (∀ (c : Nat), c < 1 → nth [u2] c = over (nth [u4]) 0 1 (fun (x : Nat) => u2) c) ∧ 1 ≤ 1 ∧ (∀ (c : Nat), c < 1 → nth [u3] c = over (nth [int i64 b.best]) 0 1 (fun (x : Nat) => u3) c) ∧ Q AEx.ret (St.mk [(7, AV.bool true)] [cells false 1 (nth [encPacks x]), cells false 2 (nth [encPacks x, encR gl]), cells false 8 fun (a : Nat) => int i64 (old a), cells false 1 (nth [u3]), AObj.map (mapE (putE b.es p old u6)), cells false 1 (nth [AV.mp 4]), u7, cells false 1 (nth [u2]), cells false 8 fun (a : Nat) => int i64 (p a)] g)) ∧ (u5 = false → Q AEx.ret (St.mk [(7, AV.bool true)] u1 g))) (cells false 1 (nth [fn 57 0 (nth []) 2 (nth [ref 2 0, ref 5 0])]))) (x.l.length)) ((faultOf x gl.l p).fst == 0 && ((faultOf x gl.l p).snd == 0 && true))) (fz Fz.auto 1 (b.out.length) fun (i x : Nat) => int i64 (b.out.getD i 0))) (int i64 (↑(farN p old (x.l.length)) : Int))) (fz Fz.auto 1 ((planL p (x.l.length - 0)).length) fun (i x_1 : Nat) => int i64 ((planL p (x.l.length - 0)).getD i 0))) ([cells false 1 (nth [encPacks x]), cells false 2 (nth [encPacks x, encR gl]), cells false 8 fun (a : Nat) => int i64 (old a), cells false 1 (nth [int i64 b.best]), AObj.map (mapE b.es), cells false 1 (nth [AV.mp 4]), cells false 1 (nth [fn 57 0 (nth []) 2 (nth [ref 2 0, ref 5 0])]), cells false 1 (nth [fz Fz.auto 1 (b.out.length) fun (i x : Nat) => int i64 (b.out.getD i 0)]), cells false 8 fun (a : Nat) => int i64 (p a)])) (fun _ => by kernel_rfl) ⟨(by omega), ⟨(by omega), ⟨(fun _ _ => ⟨rfl, (Go.Avm.Pack.c_fault _ _ _ _ _ _ (by omega) (by omega) (by omega) (by omega) (by omega) (by omega) (by omega) (by omega))⟩), ⟨fun c1 => ⟨(by kernel_rfl), ⟨(by omega), ⟨(by omega), ⟨(by omega), ⟨(by omega), ⟨(by omega), ⟨⟨rfl, (does_sub' [8] 9 (fun R g => Go.Avm.Pack.c_CloneA R (p) (x.l.length - 0) g (by omega) (by omega)) rfl rfl rfl (by exact ⟨⟨rfl, Nat.le_refl _, fun j hj => match j, hj with | 0, _ => (Le.refl _) | 1, _ => (Le.refl _) | 2, _ => (Le.refl _) | 3, _ => (Le.refl _) | 4, _ => (Le.refl _) | 5, _ => (Le.refl _) | 6, _ => (Le.refl _) | 7, _ => (Le.refl _) ⟩, trivial⟩) (by exact ⟨by omega, trivial⟩) (by exact ⟨(Le.refl _), trivial⟩) (by exact le_unren (by exact trivial)) (by exact ⟨LeO.rflc, ⟨LeO.rflc, ⟨LeO.rflc, ⟨LeO.rflc, ⟨rfl, ⟨LeO.rflc, ⟨LeO.rflc, ⟨LeO.rflc, ⟨⟨rfl, Nat.le_refl _, fun j hj => match j, hj with | 0, _ => (Le.refl _) | 1, _ => (Le.refl _) | 2, _ => (Le.refl _) | 3, _ => (Le.refl _) | 4, _ => (Le.refl _) | 5, _ => (Le.refl _) | 6, _ => (Le.refl _) | 7, _ => (Le.refl _) ⟩, trivial⟩⟩⟩⟩⟩⟩⟩⟩⟩))⟩, ⟨(by omega), ⟨(by omega), ⟨(by omega), ⟨⟨rfl, (does_sub' [2, 5, 4] 9 (fun R g => Go.Avm.Pack.c_far R (p) (old) (x.l.length) (b.es) g (by omega) (by omega) (by omega) (by omega)) rfl rfl rfl (by exact ⟨⟨rfl, Nat.le_refl _, fun j hj => match j, hj with | 0, _ => (Le.refl _) | 1, _ => (Le.refl _) | 2, _ => (Le.refl _) | 3, _ => (Le.refl _) | 4, _ => (Le.refl _) | 5, _ => (Le.refl _) | 6, _ => (Le.refl _) | 7, _ => (Le.refl _) ⟩, ⟨⟨rfl, Nat.le_refl _, fun j hj => match j, hj with | 0, _ => (Le.refl _) ⟩, ⟨rfl, trivial⟩⟩⟩) (by exact ⟨by omega, ⟨by omega, trivial⟩⟩) (by exact ⟨le_ren (by exact ⟨⟨⟨⟨⟨⟨⟨⟨trivial, trivial⟩, trivial⟩, trivial⟩, trivial⟩, trivial⟩, trivial⟩, trivial⟩, trivial⟩), ⟨le_ren (by exact trivial), ⟨(Le.refl _), ⟨(Le.refl _), trivial⟩⟩⟩⟩) (by exact le_unren (by exact trivial)) (by exact ⟨LeO.rflc, ⟨LeO.rflc, ⟨⟨rfl, Nat.le_refl _, fun j hj => match j, hj with | 0, _ => (Le.refl _) | 1, _ => (Le.refl _) | 2, _ => (Le.refl _) | 3, _ => (Le.refl _) | 4, _ => (Le.refl _) | 5, _ => (Le.refl _) | 6, _ => (Le.refl _) | 7, _ => (Le.refl _) ⟩, ⟨LeO.rflc, ⟨rfl, ⟨⟨rfl, Nat.le_refl _, fun j hj => match j, hj with | 0, _ => (Le.refl _) ⟩, ⟨LeO.rflc, ⟨LeO.rflc, ⟨LeO.rflc, trivial⟩⟩⟩⟩⟩⟩⟩⟩⟩))⟩, ⟨(by omega), ⟨(fun c hc => match c, hc with | 0, _ => (by kernel_rfl) ), ⟨(by omega), ⟨(fun c hc => match c, hc with | 0, _ => (by kernel_rfl) ), ?_⟩⟩⟩⟩⟩⟩⟩⟩⟩⟩⟩⟩⟩⟩⟩, fun c1 => ?_⟩⟩⟩⟩
   ·refine (retQ_le (retQ_take' 8 _ _ rfl trivial (by omega) trivial ⟨(fun j hj => match j, hj with | 0, _ => trivial ), ⟨(fun j hj => match j, hj with | 0, _ => trivial | 1, _ => trivial ), ⟨(fun j hj => match j, hj with | 0, _ => trivial | 1, _ => trivial | 2, _ => trivial | 3, _ => trivial | 4, _ => trivial | 5, _ => trivial | 6, _ => trivial | 7, _ => trivial ), ⟨(fun j hj => match j, hj with | 0, _ => trivial ), ⟨(fun j hj => match j, hj with | 0, _ => (show 5 ≤ 8 by omega) ), ⟨(fun j hj => match j, hj with | 0, _ => ⟨trivial, ⟨⟨trivial, (show 3 ≤ 8 by omega)⟩, (show 6 ≤ 8 by omega)⟩⟩ ), ⟨(fun j hj => match j, hj with | 0, _ => trivial ), trivial⟩⟩⟩⟩⟩⟩⟩ (by kernel_rfl) rfl rfl) (Le.refl _))
   ·exact absurd (show fineB x gl.l p = false from c1) (by rw [hf]; decide)
 | false =>
   rw [if_neg (by decide)]
   refine spec_of_wp (nt := 24) (rs := [.tmp 7]) (k0 := 8) (by kernel_rfl) (by kernel_rfl) (by kernel_rfl) rfl ?_
   refine vcQ [] (lkL [(0, [1, 2, 3, 4, 5, 6]), (1, [2, 3, 4, 5, 6, 12]), (3, [7])]) (lkL [(1, [(2, ROrc.pcall (agg 2 (nth [int i64 (faultOf x gl.l p).fst, int i64 (faultOf x gl.l p).snd])))]), (2, [(4, ROrc.kcall (fz Fz.auto 1 ((planL p (x.l.length - 0)).length) fun (i x_1 : Nat) => int i64 ((planL p (x.l.length - 0)).getD i 0))), (10, ROrc.callS (int i64 (↑(farN p old (x.l.length)) : Int)) [(4, AObj.map (mapE (putE b.es p old (x.l.length))))] g), (11, ROrc.val (Orc.obj (nth [fz Fz.auto 1 ((planL p (x.l.length - 0)).length) fun (i x_1 : Nat) => int i64 ((planL p (x.l.length - 0)).getD i 0)]))), (12, ROrc.val (Orc.obj (nth [int i64 (↑(farN p old (x.l.length)) : Int)])))])]) (fun Q => (fun (u1 : List AObj) => (fun (u2 : AV) => (fun (u3 : AV) => (fun (u4 : AV) => (fun (u5 : Bool) => (fun (u6 : Nat) => (fun (u7 : AObj) => 2 ≤ 2 ∧ 8 ≤ 8 ∧ (∀ (hp : List AObj) (g : R.σ), true = true ∧ Does Tryd.prog R 49 [encMkt x gl, encPlan p] hp g (ret (agg 2 (nth [int i64 (faultOf x gl.l p).fst, int i64 (faultOf x gl.l p).snd]))) hp g) ∧ (u5 = true → Tables.follows Tryd.prog.toTables Departure.mixedOrders = true ∧ 1 ≤ 1 ∧ (0 ≤ (u6 : Int) ∧ (u6 : Int) ≤ (↑8 : Int)) ∧ 0 < 8 ∧ 8 ≤ 8 ∧ 0 < 8 ∧ (true = true ∧ Does Tryd.prog R 56 [sl 8 0 (u6 - 0) 8 true 1] u1 g (ret u2) u1 g) ∧ 1 ≤ 1 ∧ 8 ≤ 8 ∧ 1 ≤ 1 ∧ (true = true ∧ Does Tryd.prog R 57 [encPlan p, int i64 (u6 : Int), ref 2 0, ref 5 0] u1 g (ret u3) [cells false 1 (nth [encPacks x]), cells false 2 (nth [encPacks x, encR gl]), cells false 8 fun (a : Nat) => int i64 (old a), cells false 1 (nth [int i64 b.best]), AObj.map (mapE (putE b.es p old u6)), cells false 1 (nth [AV.mp 4]), u7, cells false 1 (nth [u4]), cells false 8 fun (a : Nat) => int i64 (p a)] g) ∧ 1 ≤ 1 ∧ (∀ (c : Nat), c < 1 → nth [u2] c = over (nth [u4]) 0 1 (fun (x : Nat) => u2) c) ∧ 1 ≤ 1 ∧ (∀ (c : Nat), c < 1 → nth [u3] c = over (nth [int i64 b.best]) 0 1 (fun (x : Nat) => u3) c) ∧ Q AEx.ret (St.mk [(7, AV.bool true)] [cells false 1 (nth [encPacks x]), cells false 2 (nth [encPacks x, encR gl]), cells false 8 fun (a : Nat) => int i64 (old a), cells false 1 (nth [u3]), AObj.map (mapE (putE b.es p old u6)), cells false 1 (nth [AV.mp 4]), u7, cells false 1 (nth [u2]), cells false 8 fun (a : Nat) => int i64 (p a)] g)) ∧ (u5 = false → Q AEx.ret (St.mk [(7, AV.bool true)] u1 g))) (cells false 1 (nth [fn 57 0 (nth []) 2 (nth [ref 2 0, ref 5 0])]))) (x.l.length)) ((faultOf x gl.l p).fst == 0 && ((faultOf x gl.l p).snd == 0 && true))) (fz Fz.auto 1 (b.out.length) fun (i x : Nat) => int i64 (b.out.getD i 0))) (int i64 (↑(farN p old (x.l.length)) : Int))) (fz Fz.auto 1 ((planL p (x.l.length - 0)).length) fun (i x_1 : Nat) => int i64 ((planL p (x.l.length - 0)).getD i 0))) ([cells false 1 (nth [encPacks x]), cells false 2 (nth [encPacks x, encR gl]), cells false 8 fun (a : Nat) => int i64 (old a), cells false 1 (nth [int i64 b.best]), AObj.map (mapE b.es), cells false 1 (nth [AV.mp 4]), cells false 1 (nth [fn 57 0 (nth []) 2 (nth [ref 2 0, ref 5 0])]), cells false 1 (nth [fz Fz.auto 1 (b.out.length) fun (i x : Nat) => int i64 (b.out.getD i 0)]), cells false 8 fun (a : Nat) => int i64 (p a)])) (fun _ => by kernel_rfl) ⟨(by omega), ⟨(by omega), ⟨(fun _ _ => ⟨rfl, (Go.Avm.Pack.c_fault _ _ _ _ _ _ (by omega) (by omega) (by omega) (by omega) (by omega) (by omega) (by omega) (by omega))⟩), ⟨fun c1 => ⟨(by kernel_rfl), ⟨(by omega), ⟨(by omega), ⟨(by omega), ⟨(by omega), ⟨(by omega), ⟨⟨rfl, (does_sub' [8] 9 (fun R g => Go.Avm.Pack.c_CloneA R (p) (x.l.length - 0) g (by omega) (by omega)) rfl rfl rfl (by exact ⟨⟨rfl, Nat.le_refl _, fun j hj => match j, hj with | 0, _ => (Le.refl _) | 1, _ => (Le.refl _) | 2, _ => (Le.refl _) | 3, _ => (Le.refl _) | 4, _ => (Le.refl _) | 5, _ => (Le.refl _) | 6, _ => (Le.refl _) | 7, _ => (Le.refl _) ⟩, trivial⟩) (by exact ⟨by omega, trivial⟩) (by exact ⟨(Le.refl _), trivial⟩) (by exact le_unren (by exact trivial)) (by exact ⟨LeO.rflc, ⟨LeO.rflc, ⟨LeO.rflc, ⟨LeO.rflc, ⟨rfl, ⟨LeO.rflc, ⟨LeO.rflc, ⟨LeO.rflc, ⟨⟨rfl, Nat.le_refl _, fun j hj => match j, hj with | 0, _ => (Le.refl _) | 1, _ => (Le.refl _) | 2, _ => (Le.refl _) | 3, _ => (Le.refl _) | 4, _ => (Le.refl _) | 5, _ => (Le.refl _) | 6, _ => (Le.refl _) | 7, _ => (Le.refl _) ⟩, trivial⟩⟩⟩⟩⟩⟩⟩⟩⟩))⟩, ⟨(by omega), ⟨(by omega), ⟨(by omega), ⟨⟨rfl, (does_sub' [2, 5, 4] 9 (fun R g => Go.Avm.Pack.c_far R (p) (old) (x.l.length) (b.es) g (by omega) (by omega) (by omega) (by omega)) rfl rfl rfl (by exact ⟨⟨rfl, Nat.le_refl _, fun j hj => match j, hj with | 0, _ => (Le.refl _) | 1, _ => (Le.refl _) | 2, _ => (Le.refl _) | 3, _ => (Le.refl _) | 4, _ => (Le.refl _) | 5, _ => (Le.refl _) | 6, _ => (Le.refl _) | 7, _ => (Le.refl _) ⟩, ⟨⟨rfl, Nat.le_refl _, fun j hj => match j, hj with | 0, _ => (Le.refl _) ⟩, ⟨rfl, trivial⟩⟩⟩) (by exact ⟨by omega, ⟨by omega, trivial⟩⟩) (by exact ⟨le_ren (by exact ⟨⟨⟨⟨⟨⟨⟨⟨trivial, trivial⟩, trivial⟩, trivial⟩, trivial⟩, trivial⟩, trivial⟩, trivial⟩, trivial⟩), ⟨le_ren (by exact trivial), ⟨(Le.refl _), ⟨(Le.refl _), trivial⟩⟩⟩⟩) (by exact le_unren (by exact trivial)) (by exact ⟨LeO.rflc, ⟨LeO.rflc, ⟨⟨rfl, Nat.le_refl _, fun j hj => match j, hj with | 0, _ => (Le.refl _) | 1, _ => (Le.refl _) | 2, _ => (Le.refl _) | 3, _ => (Le.refl _) | 4, _ => (Le.refl _) | 5, _ => (Le.refl _) | 6, _ => (Le.refl _) | 7, _ => (Le.refl _) ⟩, ⟨LeO.rflc, ⟨rfl, ⟨⟨rfl, Nat.le_refl _, fun j hj => match j, hj with | 0, _ => (Le.refl _) ⟩, ⟨LeO.rflc, ⟨LeO.rflc, ⟨LeO.rflc, trivial⟩⟩⟩⟩⟩⟩⟩⟩⟩))⟩, ⟨(by omega), ⟨(fun c hc => match c, hc with | 0, _ => (by kernel_rfl) ), ⟨(by omega), ⟨(fun c hc => match c, hc with | 0, _ => (by kernel_rfl) ), ?_⟩⟩⟩⟩⟩⟩⟩⟩⟩⟩⟩⟩⟩⟩⟩, fun c1 => ?_⟩⟩⟩⟩
   ·exact absurd (show fineB x gl.l p = true from c1) (by rw [hf]; decide)
   ·refine (retQ_le (retQ_take' 8 _ _ rfl trivial (by omega) trivial ⟨(fun j hj => match j, hj with | 0, _ => trivial ), ⟨(fun j hj => match j, hj with | 0, _ => trivial | 1, _ => trivial ), ⟨(fun j hj => match j, hj with | 0, _ => trivial | 1, _ => trivial | 2, _ => trivial | 3, _ => trivial | 4, _ => trivial | 5, _ => trivial | 6, _ => trivial | 7, _ => trivial ), ⟨(fun j hj => match j, hj with | 0, _ => trivial ), ⟨(fun j hj => match j, hj with | 0, _ => (show 5 ≤ 8 by omega) ), ⟨(fun j hj => match j, hj with | 0, _ => ⟨trivial, ⟨⟨trivial, (show 3 ≤ 8 by omega)⟩, (show 6 ≤ 8 by omega)⟩⟩ ), ⟨(fun j hj => match j, hj with | 0, _ => trivial ), trivial⟩⟩⟩⟩⟩⟩⟩ (by kernel_rfl) rfl rfl) (Le.refl _))
end Go.Avm.Pack
namespace Go.Avm.Pack
open Go Go.Avm Go.Proofs
open Go.IntKind (i64 u64)
open Go.Avm.AV (int bool any fz fp sl ow ref fn ifc val agg tup)
open Go.Avm.AObj (cells dead)
open Go.Avm.Oc (ret)
set_option maxRecDepth 4000
def wnN (old : Nat → Int) (b : NearS) (p : Nat → Int) (m : Nat) : Bool × NearS := (decide ((farN p old m : Int) < b.best), ⟨putE b.es p old m, b.out, b.best⟩)
def fdN (x : Ix) (gl : List Rng) (old : Nat → Int) (b : NearS) (p : Nat → Int) : Bool × NearS := (true, if fineB x gl p then ⟨putE b.es p old x.l.length, planL p x.l.length, farN p old x.l.length⟩ else b)
def nearP (x : Ix) (gl : List Rng) (old : Nat → Int) : NearS := (eachR x gl (clausesOf x gl) (wnN old) (fdN x gl old) x.l.length ⟨[], [], (x.l.length : Int) + 1⟩ (fun _ => 0)).2
def nearR (x : Ix) (gl : List Rng) (hv : List Int) : List Int × Int × Int :=
 if checkB x gl then if plannedB x hv then if Nat.beq (nearP x gl (planOf hv x.l.length)).out.length 0 then ([], 0, 5) else ((nearP x gl (planOf hv x.l.length)).out, (nearP x gl (planOf hv x.l.length)).best, 0) else ([], 0, 2) else ([], 0, 2)
theorem fit_in {x : Ix} (hx : formedB x = true) {p : Nat → Int} {m : Nat} (h : inQ x p m) (hm : m ≤ x.l.length) : ∀ j, j < m → -100 ≤ p j ∧ p j ≤ 100 := fun j hj => by
 have := h j hj
 have h5 := formed_five hx (show j < x.l.length by omega)
 omega
theorem fit_planned {x : Ix} (hx : formedB x = true) {l : List Int} (h : plannedB x l = true) : fitP (planOf l x.l.length) := fun j hj => by
 by_cases hl : j < x.l.length
 ·exact fit_in hx (planned_inP h) (Nat.le_refl _) j hl
 ·unfold planOf
  rw [if_neg hl]
  decide
theorem c_Closest (R : Res) (x : Ix) (gl : KL Rng) (hv : KL Int) (hp : List AObj) (g : R.σ) (hs : small x) (hg : gl.l.length < 1000000) :
  Does Tryd.prog R 19 [encIx x, encR gl, encI hv] hp g (.ret (.tup 3 (nth [encI ⟨(nearR x gl.l hv.l).1, .auto⟩, .int .i64 (nearR x gl.l hv.l).2.1, .int .i64 (nearR x gl.l hv.l).2.2]))) hp g := by
 refine does_any' (fun R g => ?_) (by exact ⟨⟨trivial, trivial⟩, ⟨trivial, ⟨trivial, trivial⟩⟩⟩) R hp g
 cases hck : checkB x gl.l with
 | false =>
   have e : nearR x gl.l hv.l = ([], 0, 2) := by unfold nearR; rw [hck]; rfl
   rw [e]
   refine spec_of_wp (nt := 47) (rs := [.tmp 6, .tmp 7, .tmp 8]) (k0 := 0) (by kernel_rfl) (by kernel_rfl) (by kernel_rfl) rfl ?_
   refine vcQ [] (lkL [(0, [1, 2, 3]), (1, [1, 2, 3, 19]), (2, [6, 7, 8]), (3, [2, 3, 9]), (4, [3, 9, 10, 11])]) (lkL [(1, [(2, ROrc.pcall (int i64 2))]), (3, [(4, ROrc.val (Orc.obj (nth [encPacks x, encR gl])))])]) (fun Q => (fun (u1 : AV) => 1 ≤ 1 ∧ (∀ (hp : List AObj) (g : R.σ), true = true ∧ Does Tryd.prog R 47 [encIx x, encR gl] hp g (ret (int i64 2)) hp g) ∧ (true = true → Q AEx.ret (St.mk [(6, u1), (7, int i64 0), (8, int i64 2)] [cells false 1 (nth [encPacks x])] g)) ∧ (true = false → 1 ≤ 1 ∧ 2 ≤ 2 ∧ (∀ (c : Nat), c < 2 → nth [encPacks x, encR gl] c = over (nth [u1, u1]) 0 2 (List.brecOn (motive := fun (x : List AV) => Nat → AV) [encPacks x, encR gl] nth._f) c) ∧ False)) (fz Fz.nil 0 0 fun _ _ => any)) (fun _ => by kernel_rfl) ⟨(by omega), ⟨(fun _ _ => ⟨rfl, (Go.Avm.Pack.c_Check_f _ _ _ _ _ (by omega) (by omega) (by omega))⟩), ⟨fun _ => ?_, fun h => (nomatch h)⟩⟩⟩
   refine (retQ_le (retQ_drop _ _ rfl trivial ⟨⟨⟨trivial, trivial⟩, trivial⟩, trivial⟩ rfl) (Le.tup (fun j hj => match j, hj with | 0, _ => Le.nil_auto | 1, _ => (Le.of_eq (by kernel_rfl)) | 2, _ => (Le.of_eq (by kernel_rfl)) )))
 | true =>
   obtain ⟨hx, hg4, hr⟩ := check_parts hck
   have hgl := check_goals hck
   obtain ⟨hx1, h8⟩ := formed_le hx
   cases hpl : plannedB x hv.l with
   | false =>
     have e : nearR x gl.l hv.l = ([], 0, 2) := by unfold nearR; rw [hck, hpl]; rfl
     rw [e]
     refine spec_of_wp (nt := 47) (rs := [.tmp 6, .tmp 7, .tmp 8]) (k0 := 0) (by kernel_rfl) (by kernel_rfl) (by kernel_rfl) rfl ?_
     refine vcQ [] (lkL [(0, [1, 2, 3]), (1, [1, 2, 3, 19]), (2, [6, 7, 8]), (3, [2, 3, 9]), (4, [3, 9, 10, 11]), (5, [3, 9, 10, 30]), (6, [6, 7, 8]), (7, [3, 9, 10, 12]), (8, [3, 9, 10, 12, 13])]) (lkL [(1, [(2, ROrc.pcall (int i64 0))]), (3, [(4, ROrc.val (Orc.obj (nth [encPacks x, encR gl])))]), (4, [(2, ROrc.pcall (tup 2 (nth [agg 8 fun (x : Nat) => any, AV.bool false]))), (7, ROrc.val (Orc.obj fun (x : Nat) => any))]), (7, [(5, ROrc.val (Orc.obj (nth [int i64 ((x.l.length : Int) + 1)])))])]) (fun Q => (fun (u1 : AV) => (fun (u2 : Int) => (fun (u3 : AV) => 1 ≤ 1 ∧ (∀ (hp : List AObj) (g : R.σ), true = true ∧ Does Tryd.prog R 47 [encIx x, encR gl] hp g (ret u3) hp g) ∧ (false = true → Q AEx.ret (St.mk [(6, u1), (7, u3), (8, int i64 2)] [cells false 1 (nth [encPacks x])] g)) ∧ (false = false → 1 ≤ 1 ∧ 2 ≤ 2 ∧ (∀ (c : Nat), c < 2 → nth [encPacks x, encR gl] c = over (nth [u1, u1]) 0 2 (List.brecOn (motive := fun (x : List AV) => Nat → AV) [encPacks x, encR gl] nth._f) c) ∧ 2 ≤ 2 ∧ (∀ (hp : List AObj) (g : R.σ), true = true ∧ Does Tryd.prog R 48 [encMkt x gl, encI hv] hp g (ret (tup 2 (nth [agg 8 fun (x : Nat) => any, AV.bool false]))) hp g) ∧ 8 ≤ 8 ∧ (∀ (c : Nat), c < 8 → any = over (nth [u3, u3, u3, u3, u3, u3, u3, u3]) 0 8 (fun (x : Nat) => any) c) ∧ (true = true → Q AEx.ret (St.mk [(6, u1), (7, u3), (8, int i64 2)] [cells false 1 (nth [encPacks x]), cells false 2 (nth [encPacks x, encR gl]), cells false 8 fun (x : Nat) => any] g)) ∧ (true = false → 1 ≤ 1 ∧ (-9223372036854775808 ≤ u2 ∧ u2 ≤ 9223372036854775807) ∧ 1 ≤ 1 ∧ (∀ (c : Nat), c < 1 → nth [int i64 u2] c = over (fun (a : Nat) => u3) 0 1 (fun (x : Nat) => int i64 u2) c) ∧ False))) (int i64 0)) ((x.l.length : Int) + 1)) (fz Fz.nil 0 0 fun _ _ => any)) (fun _ => by kernel_rfl) ⟨(by omega), ⟨(fun _ _ => ⟨rfl, (Go.Avm.Pack.c_Check_t _ _ _ _ _ (by omega) (by omega) (by omega))⟩), ⟨fun h => (nomatch h), fun _ => ⟨(by omega), ⟨(by omega), ⟨(fun c hc => match c, hc with | 0, _ => (by kernel_rfl) | 1, _ => (by kernel_rfl) ), ⟨(by omega), ⟨(fun _ _ => ⟨rfl, (Go.Avm.Pack.c_planned_f _ _ _ _ _ _ (by omega) (by omega) (by omega))⟩), ⟨(by omega), ⟨(fun c hc => match c, hc with | 0, _ => (by kernel_rfl) | 1, _ => (by kernel_rfl) | 2, _ => (by kernel_rfl) | 3, _ => (by kernel_rfl) | 4, _ => (by kernel_rfl) | 5, _ => (by kernel_rfl) | 6, _ => (by kernel_rfl) | 7, _ => (by kernel_rfl) ), ⟨fun _ => ?_, fun h => (nomatch h)⟩⟩⟩⟩⟩⟩⟩⟩⟩⟩⟩
     refine (retQ_le (retQ_drop _ _ rfl trivial ⟨⟨⟨trivial, trivial⟩, trivial⟩, trivial⟩ rfl) (Le.tup (fun j hj => match j, hj with | 0, _ => Le.nil_auto | 1, _ => (Le.of_eq (by kernel_rfl)) | 2, _ => (Le.of_eq (by kernel_rfl)) )))
   | true =>
     obtain ⟨old, hold⟩ : ∃ old, planOf hv.l x.l.length = old := ⟨_, rfl⟩
     have ho : fitP old := by rw [← hold]; exact fit_planned hx hpl
     have hl : ∀ c ∈ clausesOf x gl.l, thereC x gl.l c := fun c hc => there_all hc
     have hll : (clausesOf x gl.l).length < 1000000 := cls_len hx hg4
     have hc : Does Tryd.prog R 52 [encMkt x gl, encC ⟨clausesOf x gl.l, .auto⟩, .fn 58 0 (nth []) 2 (nth [.ref 6 0, .ref 3 0]), .fn 59 0 (nth []) 5 (nth [.ref 1 0, .ref 0 0, .ref 6 0, .ref 7 0, .ref 3 0])] (hpC x gl old ⟨[], [], (x.l.length : Int) + 1⟩) g (.ret (.tup 0 (nth []))) (hpC x gl old (nearP x gl.l old)) g :=
      each_fn x gl ⟨clausesOf x gl.l, .auto⟩ hx hgl hl hll (fun b => okE b.es old) (wnN old) (fdN x gl.l old) R (hpC x gl old) (fun _ => g) (fun _ _ => rfl) (by kernel_rfl) (by kernel_rfl)
       (fun b p m he hp hm => Closest2 R x gl old b p m g (by omega) (fit_in hx hp hm) ho he)
       (fun b p he hp => Closest3 R x gl old b p g (fit_in hx hp (Nat.le_refl _)) ho he hx1 h8 hp (formed_wfN hx hp) (formed_wfB hx hp) (formed_smallN hx hp) (formed_smallB hx hp) hg hgl)
       (fun b p m he hp hm => okE_put he (fit_in hx hp hm) ho) (fun b p he hp => by
        show okE (if _ then _ else _ : NearS).es old
        split
        ·exact okE_put he (fit_in hx hp (Nat.le_refl _)) ho
        ·exact he) _ (fun e he => absurd he (by simp))
     rw [← hold] at hc
     have hc : Does Tryd.prog R 52 [encMkt x gl, encC ⟨clausesOf x gl.l, .auto⟩, .fn 58 0 (nth []) 2 (nth [.ref 6 0, .ref 3 0]), .fn 59 0 (nth []) 5 (nth [.ref 1 0, .ref 0 0, .ref 6 0, .ref 7 0, .ref 3 0])]
       [.cells false 1 (nth [encPacks x]), .cells false 2 (nth [encPacks x, encR gl]), .cells false 8 (fun a => .int .i64 (planOf hv.l x.l.length a)), .cells false 1 (nth [.int .i64 ((x.l.length : Int) + 1)]), .map [], .cells false 1 (nth [.mp 4]), .cells false 1 (nth [.fn 57 0 (nth []) 2 (nth [.ref 2 0, .ref 5 0])]), .cells false 1 (fun _ => .fz .nil 0 0 (fun _ _ => .any))] g (.ret (.tup 0 (nth []))) (hpC x gl (planOf hv.l x.l.length) (nearP x gl.l (planOf hv.l x.l.length))) g :=
      does_pre hc ⟨LeO.rflc, LeO.rflc, LeO.rflc, LeO.rflc, rfl, LeO.rflc, LeO.rflc, LeO.box rfl Le.nil_auto, trivial⟩
     have ha : nearR x gl.l hv.l = if Nat.beq (nearP x gl.l (planOf hv.l x.l.length)).out.length 0 then ([], 0, 5) else ((nearP x gl.l (planOf hv.l x.l.length)).out, (nearP x gl.l (planOf hv.l x.l.length)).best, 0) := by unfold nearR; rw [hck, hpl]; rfl
     obtain ⟨nb, hnb⟩ : ∃ nb, nearP x gl.l (planOf hv.l x.l.length) = nb := ⟨_, rfl⟩
     rw [hnb] at hc ha
     rw [ha]
     cases hb : Nat.beq nb.out.length 0 with
     | true =>
       rw [if_pos rfl]
       refine spec_of_wp (nt := 47) (rs := [.tmp 6, .tmp 7, .tmp 8]) (k0 := 0) (by kernel_rfl) (by kernel_rfl) (by kernel_rfl) rfl ?_
       refine vcQ [] (lkL [(0, [1, 2, 3]), (1, [1, 2, 3, 19]), (2, [6, 7, 8]), (3, [2, 3, 9]), (4, [3, 9, 10, 11]), (5, [3, 9, 10, 30]), (6, [6, 7, 8]), (7, [3, 9, 10, 12]), (8, [3, 9, 10, 12, 13]), (9, [3, 9, 12, 14]), (10, [3, 9, 12, 14, 15]), (11, [12, 15]), (12, [12, 15, 44]), (13, [6, 7, 8]), (14, [6, 7, 8])]) (lkL [(1, [(2, ROrc.pcall (int i64 0))]), (3, [(4, ROrc.val (Orc.obj (nth [encPacks x, encR gl])))]), (4, [(2, ROrc.pcall (tup 2 (nth [encPlan (planOf hv.l (x.l.length)), AV.bool true]))), (7, ROrc.val (Orc.obj fun (j : Nat) => int i64 (planOf hv.l (x.l.length) j)))]), (7, [(5, ROrc.val (Orc.obj (nth [int i64 ((x.l.length : Int) + 1)])))]), (8, [(0, ROrc.own (AV.mp 4) [cells false 1 (nth [encPacks x]), cells false 2 (nth [encPacks x, encR gl]), cells false 8 fun (a : Nat) => int i64 (planOf hv.l (x.l.length) a), cells false 1 (nth [int i64 ((x.l.length : Int) + 1)]), AObj.map []] g), (2, ROrc.val (Orc.obj (nth [AV.mp 4])))]), (9, [(2, ROrc.val (Orc.obj (nth [fn 57 0 (nth []) 2 (nth [ref 2 0, ref 5 0])])))]), (11, [(2, ROrc.pcall (encC (KL.mk (clausesOf x gl.l) Fz.auto))), (5, ROrc.callS (tup 0 (nth [])) [(3, cells false 1 (nth [int i64 nb.best])), (4, AObj.map (mapE nb.es)), (7, cells false 1 (nth [encI (KL.mk nb.out Fz.auto)]))] g)])]) (fun Q => (fun (u1 : List AObj) => (fun (u2 : AObj) => (fun (u3 : AV) => (fun (u4 : Int) => (fun (u5 : AObj) => (fun (u6 : AObj) => (fun (u7 : AV) => (fun (u8 : AV) => (fun (u9 : AV) => (fun (u10 : AObj) => (fun (u11 : Bool) => 1 ≤ 1 ∧ (∀ (hp : List AObj) (g : R.σ), true = true ∧ Does Tryd.prog R 47 [encIx x, encR gl] hp g (ret u8) hp g) ∧ (false = true → Q AEx.ret (St.mk [(6, u3), (7, u8), (8, int i64 2)] [u5] g)) ∧ (false = false → 1 ≤ 1 ∧ 2 ≤ 2 ∧ (∀ (c : Nat), c < 2 → nth [encPacks x, encR gl] c = over (nth [u3, u3]) 0 2 (List.brecOn (motive := fun (x : List AV) => Nat → AV) [encPacks x, encR gl] nth._f) c) ∧ 2 ≤ 2 ∧ (∀ (hp : List AObj) (g : R.σ), true = true ∧ Does Tryd.prog R 48 [encMkt x gl, encI hv] hp g (ret (tup 2 (nth [encPlan (planOf hv.l (x.l.length)), AV.bool true]))) hp g) ∧ 8 ≤ 8 ∧ (∀ (c : Nat), c < 8 → int i64 (planOf hv.l (x.l.length) c) = over (nth [u8, u8, u8, u8, u8, u8, u8, u8]) 0 8 (fun (j : Nat) => int i64 (planOf hv.l (x.l.length) j)) c) ∧ (false = true → Q AEx.ret (St.mk [(6, u3), (7, u8), (8, int i64 2)] [u5, u6, u2] g)) ∧ (false = false → 1 ≤ 1 ∧ (-9223372036854775808 ≤ u4 ∧ u4 ≤ 9223372036854775807) ∧ 1 ≤ 1 ∧ (∀ (c : Nat), c < 1 → nth [int i64 u4] c = over (fun (a : Nat) => u8) 0 1 (fun (x : Nat) => int i64 u4) c) ∧ OpOk Tryd.prog R (Oper.mk (some 35) (Op.makeMap 101 none) 101 "plan.go:148" #[] none) (evO [] [(3, ref 0 0), (9, ref 1 0), (10, ref 2 0), (12, ref 3 0)] []) [u5, u6, u2, u10] g (AV.mp 4) [u5, u6, u2, u10, AObj.map []] g ∧ 1 ≤ 1 ∧ (∀ (c : Nat), c < 1 → nth [AV.mp 4] c = over (fun (a : Nat) => AV.nilm) 0 1 (fun (x : Nat) => AV.mp 4) c) ∧ 1 ≤ 1 ∧ (∀ (c : Nat), c < 1 → nth [u9] c = over (fun (a : Nat) => AV.nilf) 0 1 (fun (x : Nat) => u9) c) ∧ u11 = true ∧ 2 ≤ 2 ∧ 2 ≤ 2 ∧ (∀ (hp : List AObj) (g : R.σ), true = true ∧ Does Tryd.prog R 53 [encMkt x gl] hp g (ret u7) hp g) ∧ (true = true ∧ Does Tryd.prog R 52 [encMkt x gl, u7, fn 58 0 (nth []) 2 (nth [ref 6 0, ref 3 0]), fn 59 0 (nth []) 5 (nth [ref 1 0, ref 0 0, ref 6 0, ref 7 0, ref 3 0])] [u5, u6, u2, u10, AObj.map [], cells false 1 (nth [AV.mp 4]), cells false 1 (nth [u9]), cells false 1 fun (a : Nat) => u3] g (ret (tup 0 (nth []))) u1 g) ∧ 1 ≤ 1 ∧ (Nat.beq (nb.out.length) 0 = true → Q AEx.ret (St.mk [(6, u3), (7, u8), (8, int i64 5)] u1 g)) ∧ (Nat.beq (nb.out.length) 0 = false → u11 = true ∧ 1 ≤ 1 ∧ 1 ≤ 1 ∧ Q AEx.ret (St.mk [(6, fz Fz.auto 1 (nb.out.length) fun (i x : Nat) => int i64 (nb.out.getD i 0)), (7, int i64 nb.best), (8, u8)] u1 g))))) (Tables.follows Tryd.prog.toTables Departure.mixedOrders)) (cells false 1 (nth [int i64 u4]))) (fn 57 0 (nth []) 2 (nth [ref 2 0, ref 5 0]))) (int i64 0)) (fz Fz.auto 4 ((clausesOf x gl.l).length) fun (i : Nat) => clC ((clausesOf x gl.l).getD i default))) (cells false 2 (nth [encPacks x, encR gl]))) (cells false 1 (nth [encPacks x]))) ((x.l.length : Int) + 1)) (fz Fz.nil 0 0 fun _ _ => any)) (cells false 8 fun (a : Nat) => int i64 (planOf hv.l (x.l.length) a))) ([cells false 1 (nth [encPacks x]), cells false 2 (nth [encPacks x, encR gl]), cells false 8 fun (a : Nat) => int i64 (planOf hv.l (x.l.length) a), cells false 1 (nth [int i64 nb.best]), AObj.map (mapE nb.es), cells false 1 (nth [AV.mp 4]), cells false 1 (nth [fn 57 0 (nth []) 2 (nth [ref 2 0, ref 5 0])]), cells false 1 (nth [fz Fz.auto 1 (nb.out.length) fun (i x : Nat) => int i64 (nb.out.getD i 0)])])) (fun _ => by kernel_rfl) ⟨(by omega), ⟨(fun _ _ => ⟨rfl, (Go.Avm.Pack.c_Check_t _ _ _ _ _ (by omega) (by omega) (by omega))⟩), ⟨fun h => (nomatch h), fun _ => ⟨(by omega), ⟨(by omega), ⟨(fun c hc => match c, hc with | 0, _ => (by kernel_rfl) | 1, _ => (by kernel_rfl) ), ⟨(by omega), ⟨(fun _ _ => ⟨rfl, (Go.Avm.Pack.c_planned_t _ _ _ _ _ _ (by omega) (by omega) (by omega))⟩), ⟨(by omega), ⟨(fun c hc => match c, hc with | 0, _ => (by kernel_rfl) | 1, _ => (by kernel_rfl) | 2, _ => (by kernel_rfl) | 3, _ => (by kernel_rfl) | 4, _ => (by kernel_rfl) | 5, _ => (by kernel_rfl) | 6, _ => (by kernel_rfl) | 7, _ => (by kernel_rfl) ), ⟨fun h => (nomatch h), fun _ => ⟨(by omega), ⟨(by omega), ⟨(by omega), ⟨(fun c hc => match c, hc with | 0, _ => (by kernel_rfl) ), ⟨?_, ⟨(by omega), ⟨(fun c hc => match c, hc with | 0, _ => (by kernel_rfl) ), ⟨(by omega), ⟨(fun c hc => match c, hc with | 0, _ => (by kernel_rfl) ), ⟨(by kernel_rfl), ⟨(by omega), ⟨(by omega), ⟨(fun _ _ => ⟨rfl, (Go.Avm.Pack.c_clausesF _ _ _ _ _ (by omega) (by omega) (by omega))⟩), ⟨⟨rfl, (hc)⟩, ⟨(by omega), ⟨fun _ => ?_, fun hcc => (nomatch (hb.symm.trans hcc))⟩⟩⟩⟩⟩⟩⟩⟩⟩⟩⟩⟩⟩⟩⟩⟩⟩⟩⟩⟩⟩⟩⟩⟩⟩⟩⟩
       ·exact opOk_makeMap (t := 101) rfl
       ·refine (retQ_le (retQ_drop _ _ rfl trivial ⟨⟨⟨trivial, trivial⟩, trivial⟩, trivial⟩ rfl) (Le.tup (fun j hj => match j, hj with | 0, _ => Le.nil_auto | 1, _ => (Le.of_eq (by kernel_rfl)) | 2, _ => (Le.of_eq (by kernel_rfl)) )))
     | false =>
       rw [if_neg (by decide)]
       refine spec_of_wp (nt := 47) (rs := [.tmp 6, .tmp 7, .tmp 8]) (k0 := 0) (by kernel_rfl) (by kernel_rfl) (by kernel_rfl) rfl ?_
       refine vcQ [] (lkL [(0, [1, 2, 3]), (1, [1, 2, 3, 19]), (2, [6, 7, 8]), (3, [2, 3, 9]), (4, [3, 9, 10, 11]), (5, [3, 9, 10, 30]), (6, [6, 7, 8]), (7, [3, 9, 10, 12]), (8, [3, 9, 10, 12, 13]), (9, [3, 9, 12, 14]), (10, [3, 9, 12, 14, 15]), (11, [12, 15]), (12, [12, 15, 44]), (13, [6, 7, 8]), (14, [6, 7, 8])]) (lkL [(1, [(2, ROrc.pcall (int i64 0))]), (3, [(4, ROrc.val (Orc.obj (nth [encPacks x, encR gl])))]), (4, [(2, ROrc.pcall (tup 2 (nth [encPlan (planOf hv.l (x.l.length)), AV.bool true]))), (7, ROrc.val (Orc.obj fun (j : Nat) => int i64 (planOf hv.l (x.l.length) j)))]), (7, [(5, ROrc.val (Orc.obj (nth [int i64 ((x.l.length : Int) + 1)])))]), (8, [(0, ROrc.own (AV.mp 4) [cells false 1 (nth [encPacks x]), cells false 2 (nth [encPacks x, encR gl]), cells false 8 fun (a : Nat) => int i64 (planOf hv.l (x.l.length) a), cells false 1 (nth [int i64 ((x.l.length : Int) + 1)]), AObj.map []] g), (2, ROrc.val (Orc.obj (nth [AV.mp 4])))]), (9, [(2, ROrc.val (Orc.obj (nth [fn 57 0 (nth []) 2 (nth [ref 2 0, ref 5 0])])))]), (11, [(2, ROrc.pcall (encC (KL.mk (clausesOf x gl.l) Fz.auto))), (5, ROrc.callS (tup 0 (nth [])) [(3, cells false 1 (nth [int i64 nb.best])), (4, AObj.map (mapE nb.es)), (7, cells false 1 (nth [encI (KL.mk nb.out Fz.auto)]))] g)])]) (fun Q => (fun (u1 : List AObj) => (fun (u2 : AObj) => (fun (u3 : AV) => (fun (u4 : Int) => (fun (u5 : AObj) => (fun (u6 : AObj) => (fun (u7 : AV) => (fun (u8 : AV) => (fun (u9 : AV) => (fun (u10 : AObj) => (fun (u11 : Bool) => 1 ≤ 1 ∧ (∀ (hp : List AObj) (g : R.σ), true = true ∧ Does Tryd.prog R 47 [encIx x, encR gl] hp g (ret u8) hp g) ∧ (false = true → Q AEx.ret (St.mk [(6, u3), (7, u8), (8, int i64 2)] [u5] g)) ∧ (false = false → 1 ≤ 1 ∧ 2 ≤ 2 ∧ (∀ (c : Nat), c < 2 → nth [encPacks x, encR gl] c = over (nth [u3, u3]) 0 2 (List.brecOn (motive := fun (x : List AV) => Nat → AV) [encPacks x, encR gl] nth._f) c) ∧ 2 ≤ 2 ∧ (∀ (hp : List AObj) (g : R.σ), true = true ∧ Does Tryd.prog R 48 [encMkt x gl, encI hv] hp g (ret (tup 2 (nth [encPlan (planOf hv.l (x.l.length)), AV.bool true]))) hp g) ∧ 8 ≤ 8 ∧ (∀ (c : Nat), c < 8 → int i64 (planOf hv.l (x.l.length) c) = over (nth [u8, u8, u8, u8, u8, u8, u8, u8]) 0 8 (fun (j : Nat) => int i64 (planOf hv.l (x.l.length) j)) c) ∧ (false = true → Q AEx.ret (St.mk [(6, u3), (7, u8), (8, int i64 2)] [u5, u6, u2] g)) ∧ (false = false → 1 ≤ 1 ∧ (-9223372036854775808 ≤ u4 ∧ u4 ≤ 9223372036854775807) ∧ 1 ≤ 1 ∧ (∀ (c : Nat), c < 1 → nth [int i64 u4] c = over (fun (a : Nat) => u8) 0 1 (fun (x : Nat) => int i64 u4) c) ∧ OpOk Tryd.prog R (Oper.mk (some 35) (Op.makeMap 101 none) 101 "plan.go:148" #[] none) (evO [] [(3, ref 0 0), (9, ref 1 0), (10, ref 2 0), (12, ref 3 0)] []) [u5, u6, u2, u10] g (AV.mp 4) [u5, u6, u2, u10, AObj.map []] g ∧ 1 ≤ 1 ∧ (∀ (c : Nat), c < 1 → nth [AV.mp 4] c = over (fun (a : Nat) => AV.nilm) 0 1 (fun (x : Nat) => AV.mp 4) c) ∧ 1 ≤ 1 ∧ (∀ (c : Nat), c < 1 → nth [u9] c = over (fun (a : Nat) => AV.nilf) 0 1 (fun (x : Nat) => u9) c) ∧ u11 = true ∧ 2 ≤ 2 ∧ 2 ≤ 2 ∧ (∀ (hp : List AObj) (g : R.σ), true = true ∧ Does Tryd.prog R 53 [encMkt x gl] hp g (ret u7) hp g) ∧ (true = true ∧ Does Tryd.prog R 52 [encMkt x gl, u7, fn 58 0 (nth []) 2 (nth [ref 6 0, ref 3 0]), fn 59 0 (nth []) 5 (nth [ref 1 0, ref 0 0, ref 6 0, ref 7 0, ref 3 0])] [u5, u6, u2, u10, AObj.map [], cells false 1 (nth [AV.mp 4]), cells false 1 (nth [u9]), cells false 1 fun (a : Nat) => u3] g (ret (tup 0 (nth []))) u1 g) ∧ 1 ≤ 1 ∧ (Nat.beq (nb.out.length) 0 = true → Q AEx.ret (St.mk [(6, u3), (7, u8), (8, int i64 5)] u1 g)) ∧ (Nat.beq (nb.out.length) 0 = false → u11 = true ∧ 1 ≤ 1 ∧ 1 ≤ 1 ∧ Q AEx.ret (St.mk [(6, fz Fz.auto 1 (nb.out.length) fun (i x : Nat) => int i64 (nb.out.getD i 0)), (7, int i64 nb.best), (8, u8)] u1 g))))) (Tables.follows Tryd.prog.toTables Departure.mixedOrders)) (cells false 1 (nth [int i64 u4]))) (fn 57 0 (nth []) 2 (nth [ref 2 0, ref 5 0]))) (int i64 0)) (fz Fz.auto 4 ((clausesOf x gl.l).length) fun (i : Nat) => clC ((clausesOf x gl.l).getD i default))) (cells false 2 (nth [encPacks x, encR gl]))) (cells false 1 (nth [encPacks x]))) ((x.l.length : Int) + 1)) (fz Fz.nil 0 0 fun _ _ => any)) (cells false 8 fun (a : Nat) => int i64 (planOf hv.l (x.l.length) a))) ([cells false 1 (nth [encPacks x]), cells false 2 (nth [encPacks x, encR gl]), cells false 8 fun (a : Nat) => int i64 (planOf hv.l (x.l.length) a), cells false 1 (nth [int i64 nb.best]), AObj.map (mapE nb.es), cells false 1 (nth [AV.mp 4]), cells false 1 (nth [fn 57 0 (nth []) 2 (nth [ref 2 0, ref 5 0])]), cells false 1 (nth [fz Fz.auto 1 (nb.out.length) fun (i x : Nat) => int i64 (nb.out.getD i 0)])])) (fun _ => by kernel_rfl) ⟨(by omega), ⟨(fun _ _ => ⟨rfl, (Go.Avm.Pack.c_Check_t _ _ _ _ _ (by omega) (by omega) (by omega))⟩), ⟨fun h => (nomatch h), fun _ => ⟨(by omega), ⟨(by omega), ⟨(fun c hc => match c, hc with | 0, _ => (by kernel_rfl) | 1, _ => (by kernel_rfl) ), ⟨(by omega), ⟨(fun _ _ => ⟨rfl, (Go.Avm.Pack.c_planned_t _ _ _ _ _ _ (by omega) (by omega) (by omega))⟩), ⟨(by omega), ⟨(fun c hc => match c, hc with | 0, _ => (by kernel_rfl) | 1, _ => (by kernel_rfl) | 2, _ => (by kernel_rfl) | 3, _ => (by kernel_rfl) | 4, _ => (by kernel_rfl) | 5, _ => (by kernel_rfl) | 6, _ => (by kernel_rfl) | 7, _ => (by kernel_rfl) ), ⟨fun h => (nomatch h), fun _ => ⟨(by omega), ⟨(by omega), ⟨(by omega), ⟨(fun c hc => match c, hc with | 0, _ => (by kernel_rfl) ), ⟨?_, ⟨(by omega), ⟨(fun c hc => match c, hc with | 0, _ => (by kernel_rfl) ), ⟨(by omega), ⟨(fun c hc => match c, hc with | 0, _ => (by kernel_rfl) ), ⟨(by kernel_rfl), ⟨(by omega), ⟨(by omega), ⟨(fun _ _ => ⟨rfl, (Go.Avm.Pack.c_clausesF _ _ _ _ _ (by omega) (by omega) (by omega))⟩), ⟨⟨rfl, (hc)⟩, ⟨(by omega), ⟨fun hcc => (nomatch (hb.symm.trans hcc)), fun _ => ⟨(by kernel_rfl), ⟨(by omega), ⟨(by omega), ?_⟩⟩⟩⟩⟩⟩⟩⟩⟩⟩⟩⟩⟩⟩⟩⟩⟩⟩⟩⟩⟩⟩⟩⟩⟩⟩⟩⟩⟩⟩
       ·exact opOk_makeMap (t := 101) rfl
       ·refine (retQ_le (retQ_drop _ _ rfl trivial ⟨⟨⟨trivial, trivial⟩, trivial⟩, trivial⟩ rfl) (Le.of_eq (by kernel_rfl)))
end Go.Avm.Pack
