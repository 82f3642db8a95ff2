/- RuleChecks returns true, and leaves its arguments as they were. No conditions: every input that can be read as data. -/
import Derived.Test.YtgmjpmeddajmgaaGreatM6
namespace Go.Proofs.YtgmjpmeddajmgaaGreat
open Go Go.Avm Go.Bvm
set_option maxRecDepth 100000
set_option linter.unusedVariables false
set_option linter.unusedSimpArgs false
set_option linter.defProp false
noncomputable section
attribute [local irreducible] jn jv br lp ck iff wB wG wRef wSl wCl wAg wTu wStr wFn wIfc wInt wCe wRe wMp wFr ad sb ml lt le eqi nei eq1 isNil un cvt fa len lens ix ixA ixS ixV ld1 ldn sto al bx pt bs ms app cpy sli lkm mup men mst mrg srg snx mnx mtr tas lenm rgT rgE finR mfind mset mput wKey wMa sV sem fin Ho
theorem t_10 (t : Tb) (h : H) (K Pn : KVH) (x0 x1 : AV) : (compF Tryz.prog (drawsC Tryz.prog) 10).r t [x0, x1] h K Pn = ck true (bx x0 h fun v h => ldn 3 h v fun v_1 => (t.C 11).r [v_1] h (fun v_2 h => un v_2 fun v_3 => jn (fun l h => e2 l fun x x_1 => ldn 3 h x fun v => (t.C 49).r [v] h (fun v h => ldn 3 h x fun v_4 => (t.C 50).r [v_4, x_1] h (fun v_5 h => wTu v_5 fun n g => ck (Nat.ble 1 n) (wTu v_5 fun n g_1 => ck (Nat.ble 2 n) (ldn 3 h x fun v_6 => (t.C 51).r [v_6, x_1] h (fun v_7 h => wTu v_7 fun n g_2 => ck (Nat.ble 1 n) (wTu v_7 fun n g_3 => ck (Nat.ble 2 n) (ldn 3 h x fun v_8 => (t.C 15).r [v_8] h (fun v_9 h => un v_9 fun v_10 => jn (fun l h => e7 l fun x x_2 x_3 x_4 x_5 x_6 x_7 => nei x_5 (mkI 0) fun v => jn (fun l h => e6 l fun x x_8 x_9 x_10 x_11 x_12 => ldn 3 h x_11 fun v => (t.C 16).r [v, x_12] h (fun v h => jv (fun v_11 h => jv (fun v_12 h => jv (fun v_13 h => jv (fun v_14 h => jv (fun v_15 h => jv (fun v_16 h => jv (fun v_17 h => jv (fun v_18 h => jv (fun v_19 h => jv (fun v_20 h => jv (fun v_21 h => jv (fun v h => jv (fun v h => jv (fun v h => jv (fun v_22 h => jv (fun v_23 h => jv (fun v_24 h => jv (fun v_25 h => jv (fun v_26 h => jv (fun v_27 h => jv (fun v_28 h => jv (fun v h => jv (fun v h => jn (fun l h => e4 l fun x x_13 x_14 x_15 => ldn 3 h x_14 fun v => (t.C 29).r [v, x_15] h (fun v h => un v fun v => jn (fun l h => e4 l fun x x_16 x_17 x_18 => eqi x (mkI 0) fun v => jv (fun v_29 h => jv (fun v_30 h => jv (fun v_31 h => jv (fun v_32 h => jv (fun v_33 h => jv (fun v_34 h => jv (fun v_35 h => jv (fun v_36 h => jv (fun v h => jv (fun v_37 h => jv K fun k => wB v (k v_37 h) (k (AV.bool false) h)) fun k => wG true v ((t.C 12).r [] h k Pn) (k skipV h)) fun k => wB v (k v_36 h) (k (AV.bool false) h)) fun k => wG true v ((t.C 27).r [v_29, v_35] h k Pn) (k skipV h)) fun k => wG true v ((t.C 53).r [v_34] h k Pn) (k skipV h)) fun k => wG true v (ldn 6 h v_33 fun v => k v h) (k skipV h)) fun k => wG true v (ix 6 v_31 v_32 fun v => k v h) (k skipV h)) fun k => wG true v (k x_18 h) (k skipV h)) fun k => wG true v (ld1 h v_30 fun v => k v h) (k skipV h)) fun k => wG true v (fa 2 x_17 fun v => k v h) (k skipV h)) fun k => wG true v (k x_16 h) (k skipV h)) fun k => wB v (eqi x (mkI 2) fun v => jv (fun v_29 h => jv (fun v_30 h => jv (fun v_31 h => jv (fun v h => jv (fun v_32 h => jv K fun k => wB v (k v_32 h) (k (AV.bool false) h)) fun k => wG true v ((t.C 12).r [] h k Pn) (k skipV h)) fun k => wB v (k v_31 h) (k (AV.bool false) h)) fun k => wG true v (eqi v_30 (mkI 0) fun v => k v h) (k skipV h)) fun k => wG true v (len v_29 fun v => k v h) (k skipV h)) fun k => wG true v (k x_13 h) (k skipV h)) (k [x, x_13, x_14, x_15] h)) Pn) fun k => wB v (K (AV.bool false) h) (k [x, x_8, x_11, x_12] h)) fun k => wB v_21 (k (AV.bool true) h) (k v h)) fun k => wG false v_21 (jv k fun k => wB v (k v_28 h) (k (AV.bool false) h)) (k skipV h)) fun k => wG true v (jv k fun k => wB v_24 (k (AV.bool true) h) (k v_27 h)) (k skipV h)) fun k => wG false v_24 (lt (mkI 0) v_26 fun v => k v h) (k skipV h)) fun k => wG false v_24 (len v_25 fun v => k v h) (k skipV h)) fun k => wG false v_24 (k x_10 h) (k skipV h)) fun k => wG true v (k v_23 h) (k skipV h)) fun k => wG true v (nei v_22 (mkI 2) fun v => k v h) (k skipV h)) fun k => wG true v (k x_9 h) (k skipV h)) fun k => wG false v_21 (k v h) (k skipV h)) fun k => wG false v_21 (un v fun v => k v h) (k skipV h)) fun k => wG false v_21 (k v h) (k skipV h)) fun k => wB v (k v_20 h) (k (AV.bool false) h)) fun k => wG true v (jv k fun k => wB v_13 (k (AV.bool true) h) (k v_19 h)) (k skipV h)) fun k => wG false v_13 (un v_18 fun v => k v h) (k skipV h)) fun k => wG false v_13 ((t.C 27).r [v_14, v_17] h k Pn) (k skipV h)) fun k => wG false v_13 ((t.C 52).r [v_15, v_16] h k Pn) (k skipV h)) fun k => wG false v_13 (k x_12 h) (k skipV h)) fun k => wG false v_13 (ldn 3 h x_11 fun v => k v h) (k skipV h)) fun k => wG false v_13 (k x_10 h) (k skipV h)) fun k => wG true v (k v_12 h) (k skipV h)) fun k => wG true v (nei v_11 (mkI 0) fun v => k v h) (k skipV h)) fun k => wG true v (k x_9 h) (k skipV h)) Pn) fun k => wB v (K (AV.bool false) h) (k [x, x_2, x_3, x_4, x_6, x_7] h)) fun k => wB v_10 (eqi v (mkI 2) fun v => jv (fun v_11 h => jv (fun v_12 h => jv (fun v h => jv (fun v_13 h => jv (fun v_14 h => jv (fun v_15 h => jv (fun v h => jv (fun v_16 h => jv (fun v_17 h => jv (fun v h => jv (fun v_18 h => jv (fun v_19 h => jv (fun v_20 h => jv (fun v h => jv (fun v_21 h => jv K fun k => wB v (k v_21 h) (k (AV.bool false) h)) fun k => wG true v ((t.C 12).r [] h k Pn) (k skipV h)) fun k => wB v (k v_20 h) (k (AV.bool false) h)) fun k => wG true v (eqi v_19 (mkI 0) fun v => k v h) (k skipV h)) fun k => wG true v (len v_18 fun v => k v h) (k skipV h)) fun k => wG true v (k (g_2 0) h) (k skipV h)) fun k => wB v (k v_17 h) (k (AV.bool false) h)) fun k => wG true v (eqi v_16 (mkI 2) fun v => k v h) (k skipV h)) fun k => wG true v (k (g_3 1) h) (k skipV h)) fun k => wB v (k v_15 h) (k (AV.bool false) h)) fun k => wG true v (eqi v_14 (mkI 0) fun v => k v h) (k skipV h)) fun k => wG true v (len v_13 fun v => k v h) (k skipV h)) fun k => wG true v (k (g 0) h) (k skipV h)) fun k => wB v (k v_12 h) (k (AV.bool false) h)) fun k => wG true v (eqi v_11 (mkI 2) fun v => k v h) (k skipV h)) fun k => wG true v (k (g_1 1) h) (k skipV h)) (k [g_3 1, g_2 0, g_1 1, g 0, v, x, x_1] h)) Pn))) Pn))) Pn) Pn) fun k => wB v_3 ((t.C 12).r [] h (fun v h => K v h) Pn) (k [v, x1] h)) Pn) := by kernel_rfl
theorem c_known : Pu Tryz.prog 12 [] (.bool true) := ⟨run_plain c2_ok (isT_some known_run12), fun R hp g => does_any' (run_does c2_ok (isT_some known_run12)) trivial R hp g⟩
theorem c_SmallProg5 (p : Pg) : Pu Tryz.prog 11 [eP p] (.bool (decide (smallP p))) := by
  refine Pu.of prOk (by kernel_rfl) ⟨eP_below _, trivial⟩ ?_
  rw [t_11]
  refine onc sP ?_
  refine (c_SmallProg p).call ?_
  refine on ?_
  exact fin_b rfl
theorem freeF_len (r : Rl) (m : Nat) : ∀ k, (freeF r m k).length ≤ k
  | 0 => Nat.le_refl _
  | k + 1 => by
    have := freeF_len r m k
    rw [freeF]
    split <;> simp <;> omega
theorem freeL_len {s : Sg} {r : Rl} (h : ruleP s r) : (freeL r).length < 90000 := by
  have h1 := freeF_len r r.vars.toNat r.vars.toNat
  have h2 := h.f5
  show (freeF r r.vars.toNat r.vars.toNat).length < _
  omega
set_option maxHeartbeats 8000000 in
theorem c_RuleChecks (p : Pg) (n : Int) : Pu Tryz.prog 10 [eP p, .int .i64 n] (.bool true) := by
  refine Pu.of prOk (by kernel_rfl) ⟨eP_below _, trivial, trivial⟩ ?_
  rw [t_10]
  have z : ((([] : List Int).length : Nat) : Int) = 0 := rfl
  refine onc sP ?_
  refine (c_SmallProg5 p).call ?_
  refine on (ho_br (fun c => ?_) (fun c => ?_))
  · refine on ?_
    refine c_known.call ?_
    exact fin_b rfl
  have hp := Classical.not_not.1 c
  have hp1 := hp.f1
  refine onc sP ?_
  refine (c_rCheck p hp).call ?_
  refine onc sP ?_
  refine (c_Rules p hp n).call ?_
  unfold okI
  by_cases c1 : progP p
  case neg =>
    have c1' : ¬ progR p := fun h => c1 ((prog_eq p).2 h)
    rw [if_neg c1, if_neg (fun h => c1 h.1)]
    unfold pairV
    refine onc sP ?_
    refine (c_Free p hp n).call ?_
    rw [if_neg (fun h => c1 h.1)]
    unfold pairV
    refine onc sP ?_
    refine (c_Prog5 p hp).call ?_
    rw [decide_eq_false c1']
    refine onc z ?_
    refine c_known.call ?_
    refine on ?_
    exact fin_b rfl
  have c1' := (prog_eq p).1 c1
  have hol := ofL_len p.rules 0 n
  rw [if_pos c1]
  by_cases c2 : funIn p n
  · rw [if_pos ⟨c1, c2⟩]
    unfold pairV
    refine onc sP ?_
    refine (c_Free p hp n).call ?_
    by_cases c3 : ruleIn p n
    · rw [if_pos ⟨c1, c3⟩]
      unfold pairV
      refine onc sP ?_
      refine (c_Prog5 p hp).call ?_
      rw [decide_eq_true c1']
      refine onc sP ?_
      refine (c_Fun5 p n hp).call ?_
      rw [decide_eq_true c2]
      refine onc sP ?_
      refine (c_Rules5 p (by omega) n).call ?_
      refine onc sP ?_
      refine (c_SameInts .auto .auto _ _ (by omega)).call ?_
      rw [decide_eq_true rfl]
      refine onc sP ?_
      refine (c_Rule5 p n hp).call ?_
      rw [decide_eq_true c3]
      have hmem : p.rules.getD n.toNat default ∈ p.rules := getD_mem (by have := c3.1; have := c3.2; omega)
      have hR := c1.f3 _ hmem
      have h31 := c3.1
      have h32 := c3.2
      refine onc sP ?_
      refine (c_Free5 _ (hp.f2 _ hmem) hR.f4 hR.f5).call ?_
      refine on ?_
      refine (c_SameInts .auto .auto _ _ (freeL_len hR)).call ?_
      have hfe : freeL (p.rules.getD n.toNat default) = freeG (p.rules.getD n.toNat default) (p.rules.getD n.toNat default).vars.toNat (p.rules.getD n.toNat default).vars.toNat := free_eq hR _ _
      rw [decide_eq_true hfe]
      refine on ?_
      refine c_known.call ?_
      refine on ?_
      exact fin_b rfl
    · rw [if_neg (fun h => c3 h.2)]
      unfold pairV
      refine onc sP ?_
      refine (c_Prog5 p hp).call ?_
      rw [decide_eq_true c1']
      refine onc sP ?_
      refine (c_Fun5 p n hp).call ?_
      rw [decide_eq_true c2]
      refine onc sP ?_
      refine (c_Rules5 p (by omega) n).call ?_
      refine onc sP ?_
      refine (c_SameInts .auto .auto _ _ (by omega)).call ?_
      rw [decide_eq_true rfl]
      refine onc sP ?_
      refine (c_Rule5 p n hp).call ?_
      rw [decide_eq_false c3]
      refine onc (And.intro z sP) ?_
      refine c_known.call ?_
      refine on ?_
      exact fin_b rfl
  · rw [if_neg (fun h => c2 h.2)]
    unfold pairV
    refine onc sP ?_
    refine (c_Free p hp n).call ?_
    by_cases c3 : ruleIn p n
    · rw [if_pos ⟨c1, c3⟩]
      unfold pairV
      refine onc sP ?_
      refine (c_Prog5 p hp).call ?_
      rw [decide_eq_true c1']
      refine onc sP ?_
      refine (c_Fun5 p n hp).call ?_
      rw [decide_eq_false c2]
      refine onc (And.intro z sP) ?_
      refine (c_Rule5 p n hp).call ?_
      rw [decide_eq_true c3]
      have hmem : p.rules.getD n.toNat default ∈ p.rules := getD_mem (by have := c3.1; have := c3.2; omega)
      have hR := c1.f3 _ hmem
      have h31 := c3.1
      have h32 := c3.2
      refine onc sP ?_
      refine (c_Free5 _ (hp.f2 _ hmem) hR.f4 hR.f5).call ?_
      refine on ?_
      refine (c_SameInts .auto .auto _ _ (freeL_len hR)).call ?_
      have hfe : freeL (p.rules.getD n.toNat default) = freeG (p.rules.getD n.toNat default) (p.rules.getD n.toNat default).vars.toNat (p.rules.getD n.toNat default).vars.toNat := free_eq hR _ _
      rw [decide_eq_true hfe]
      refine on ?_
      refine c_known.call ?_
      refine on ?_
      exact fin_b rfl
    · rw [if_neg (fun h => c3 h.2)]
      unfold pairV
      refine onc sP ?_
      refine (c_Prog5 p hp).call ?_
      rw [decide_eq_true c1']
      refine onc sP ?_
      refine (c_Fun5 p n hp).call ?_
      rw [decide_eq_false c2]
      refine onc (And.intro z sP) ?_
      refine (c_Rule5 p n hp).call ?_
      rw [decide_eq_false c3]
      refine onc (And.intro z sP) ?_
      refine c_known.call ?_
      refine on ?_
      exact fin_b rfl
theorem d_RuleChecks (R : Res) (p : Pg) (n : Int) (hp : List AObj) (g : R.σ) : Does Tryz.prog R 10 [eP p, encI n] hp g (.ret (.bool true)) hp g := (c_RuleChecks p n).do_ R hp g
end
end Go.Proofs.YtgmjpmeddajmgaaGreat
namespace Go.Proofs.YtgmjpmeddajmgaaGreat
open Go Go.Avm Go.WideShapes Go.ChangeShapes
set_option maxRecDepth 100000 in
theorem ruleChecks_lifted (os : Os) (started : os.Started) (H : Type) (enc : TypeId × Value → H) :
    ReturnsInHanded {} Tryz.checked os 10 .any (Rows.ruleChecksSpec.pre6 enc Tryz.prog Tryz.f10 Rows.ruleChecksRow.domain Rows.ruleChecksRow.apart) (Rows.ruleChecksSpec.post enc Tryz.prog Tryz.f10 Rows.ruleChecksRow.apart Rows.ruleChecksRow.fresh Rows.ruleChecksRow.handsOn Rows.ruleChecksRow.again) :=
  law_returns (C := Tryz.checked) (tb := 4) (X := fun l => ∃ a : Pg, True ∧ ∃ l', (∃ b : Int, True ∧ ∃ l'', (l'' = []) ∧ l' = encI b :: l'') ∧ l = eP a :: l') (by kernel_rfl) started (by kernel_rfl) Tryz.func10
    (ChangeSpec.witness6 (enc := enc) (C := Tryz.checked) false ⟨#[], #[.agg #[.slice none 0 0, .slice none 0 0, .slice none 0 0], .int .i64 0], []⟩ 8 (by kernel_rfl) (by kernel_rfl) (by kernel_rfl) (by kernel_rfl))
    rfl (fun ds h => by
      match ds, h with
      | [_, _], _ => rfl) (by kernel_rfl)
    (fun t ht => by
      have ht : t ∈ [27, 3] := ht
      simp only [List.mem_cons, List.not_mem_nil, or_false] at ht
      rcases ht with rfl | rfl <;> exact ⟨by kernel_rfl, of_decide_eq_true (by kernel_rfl)⟩) rfl Tryz.underlying4
    ((args_cons arg_pg (args_cons arg_int1 args_nil)))
    (fun avs ⟨a, ha, _, ⟨b, hb, _, e0, e1⟩, e2⟩ => by
      subst e0 e1 e2
      exact d_RuleChecks Res.none a b [] ())
theorem fact_in : (Rows.ruleChecksRow.inPlace == Tryz.pinned.checked.prog.inPlace 10) = true := by kernel_rfl
theorem fact_un : (Rows.ruleChecksRow.unfollowed == Tryz.pinned.checked.prog.unfollowed 10) = true := by kernel_rfl
theorem fact_re : (Rows.ruleChecksRow.recurses == Tryz.pinned.checked.prog.recurses 10) = true := by kernel_rfl
theorem fact_na : (Rows.ruleChecksRow.named == Tryz.pinned.checked.prog.varsNamed 10) = true := by kernel_rfl
theorem facts : joinedFacts Tryz.pinned.checked.prog 10 Tryz.f10 Rows.ruleChecksSpec Rows.ruleChecksRow = true := by
  unfold joinedFacts
  rw [fact_in, fact_un, fact_re, fact_na]
  kernel_rfl
theorem named : Tryz.pinned.checked.prog.funcNamed Rows.ruleChecksRow.func = some 10 := by kernel_rfl
theorem ruleChecks_holds : Rows.RuleChecksSaid :=
  OpenClaim.holds_of_wide 10 Tryz.f10 rfl rfl rfl rfl rfl rfl rfl ⟨rfl, rfl, rfl, rfl, rfl⟩ rfl rfl rfl rfl rfl named Tryz.func10 facts
    (of_decide_eq_true (by kernel_rfl)) (by unfold Func.isWrapper; rw [if_neg (by decide +kernel)]; exact ⟨rfl, rfl⟩)
    (fun os started H enc _ => ruleChecks_lifted os started H enc)
#print axioms ruleChecks_holds
end Go.Proofs.YtgmjpmeddajmgaaGreat
