/- RuleMatches returns true, and leaves its arguments as they were. No conditions: every input that can be read as data. -/
import Derived.Test.YtgmjpmeddajmgaaGreatM6
namespace Go.Proofs.YtgmjpmeddajmgaaGreat
open Go Go.Avm Go.Bvm
set_option maxRecDepth 100000
set_option linter.unusedVariables false
set_option linter.unusedSimpArgs false
set_option linter.defProp false
noncomputable section
attribute [local irreducible] jn jv br lp ck iff wB wG wRef wSl wCl wAg wTu wStr wFn wIfc wInt wCe wRe wMp wFr ad sb ml lt le eqi nei eq1 isNil un cvt fa len lens ix ixA ixS ixV ld1 ldn sto al bx pt bs ms app cpy sli lkm mup men mst mrg srg snx mnx mtr tas lenm rgT rgE finR mfind mset mput wKey wMa sV sem fin Ho
theorem c_known:Pu Tryz.prog 12 [] (.bool true):=⟨run_plain c2_ok (isT_some known_run12),fun R hp g=>does_any' (run_does c2_ok (isT_some known_run12)) trivial R hp g⟩
theorem c_SmallProg5 (p:Pg):Pu Tryz.prog 11 [eP p] (.bool (decide (smallP p))):=by
 refine Pu.of prOk (by kernel_rfl) ⟨eP_below _,trivial⟩ ?_
 rw[t_11]
 refine onc sP ?_
 refine(c_SmallProg p).call ?_
 refine on ?_
 exact fin_b rfl
end
end Go.Proofs.YtgmjpmeddajmgaaGreat
namespace Go.Proofs.YtgmjpmeddajmgaaGreat
open Go Go.Avm Go.Bvm
set_option maxRecDepth 100000
set_option linter.unusedVariables false
set_option linter.unusedSimpArgs false
set_option linter.defProp false
noncomputable section
attribute [local irreducible] jn jv br lp ck iff wB wG wRef wSl wCl wAg wTu wStr wFn wIfc wInt wCe wRe wMp wFr ad sb ml lt le eqi nei eq1 isNil un cvt fa len lens ix ixA ixS ixV ld1 ldn sto al bx pt bs ms app cpy sli lkm mup men mst mrg srg snx mnx mtr tas lenm rgT rgE finR mfind mset mput wKey wMa sV sem fin Ho
theorem t_166 (t:Tb)(h:H)(K Pn:KVH)(x0:AV):(compF Tryz.prog (drawsC Tryz.prog) 166).r t [x0] h K Pn=ck true (bx x0 h fun v h=>al 1 [AV.bool false] h fun v_1 h=>ldn 3 h v fun v=>(t.C 165).r [v] h (fun v h=>jn (fun l h=>e1 l fun x=>sto 1 h x (AV.bool true) fun h=>wRef x (fun x_1 x_2=>ld1 h x fun v=>K v h) fun x x_1=>none) fun k=>rgT t v (rdOf Tryz.prog 166 0 [15,6,3,2] 16) [AV.any,AV.any,AV.any,v_1] h fun n h=>rgE n (k [v_1] h) (wRef v_1 (fun x x_1=>ld1 h v_1 fun v=>K v h) fun x x_1=>none) fun n=>iff (n.beq 0) (k [v_1] h) none) Pn):=by kernel_rfl
theorem t_120 (t:Tb)(h:H)(K Pn:KVH)(x0 x1:AV):(compF Tryz.prog (drawsC Tryz.prog) 120).r t [x0,x1] h K Pn=ck true (bx x0 h fun v h=>bx x1 h fun v_1 h=>ldn 2 h v fun v=>ldn 3 h v_1 fun v_2=>pt 0 3 v_2 [mkI 0,mkI 0,AV.fz Fz.nil 0 0 fun _ _=>AV.any] fun cs=>bs 1 3 3 cs h fun v_3 h=>(t.C 139).r [v,v_3] h (fun v h=>un v fun v=>jn (fun l h=>e6 l fun x x_1 x_2 x_3 x_4 x_5=>al 1 [AV.bool false] h fun v h=>sto 1 h v (AV.bool true) fun h=>ldn 3 h x_5 fun v_4=>(t.C 165).r [v_4] h (fun v_5 h=>jn (fun l h=>e2 l fun x x_6=>ldn 3 h x_6 fun v=>(t.C 166).r [v] h (fun v h=>jv (fun v_6 h=>jv (fun v_7 h=>jv (fun v_8 x=>sV v_6 v_8 (K (AV.tup 3 (nx [v,v_7,mkI 0])) h)) fun k=>wG true v (ld1 h x fun v=>k v h) (k skipV h)) fun k=>wB v (k v_6 h) (k (AV.bool false) h)) fun k=>wG true v (ld1 h x fun v=>k v h) (k skipV h)) Pn) fun k=>rgT t v_5 (rdOf Tryz.prog 120 0 [17,8,7] 32) [x,x_1,v] h fun n h=>rgE n (k [v,x_5] h) (K (AV.tup 3 (nx [x_4,x_3,x_2])) h) fun n=>iff (n.beq 0) (k [v,x_5] h) none) Pn) fun k=>wB v (K (AV.tup 3 (nx [AV.bool false,AV.bool false,mkI 2])) h) (k [AV.any,AV.any,mkI 0,AV.bool false,AV.bool false,v_1] h)) Pn):=by kernel_rfl
theorem t_69 (t:Tb)(h:H)(K Pn:KVH)(x0 x1 x2:AV):(compF Tryz.prog (drawsC Tryz.prog) 69).r t [x0,x1,x2] h K Pn=ck true (bx x0 h fun v h=>len x2 fun v_1=>fa 1 v fun v_2=>ld1 h v_2 fun v_3=>ix 2 v_3 x1 fun v_4=>fa 1 v_4 fun v_5=>ld1 h v_5 fun v_6=>eqi v_1 v_6 fun v_7=>jv (fun v_8 h=>jv (fun v h=>jv (fun v h=>jv K fun k=>wB v_7 (k v h) (k (AV.bool false) h)) fun k=>wG true v_7 ((t.C 84).r [v_8,v] h k Pn) (k skipV h)) fun k=>wG true v_7 (k (AV.fn 119 0 (nx []) 1 (nx [v])) h) (k skipV h)) fun k=>wG true v_7 (k x2 h) (k skipV h)):=by kernel_rfl
theorem t_119 (t:Tb)(h:H)(K Pn:KVH)(x0 x1:AV):(compF Tryz.prog (drawsC Tryz.prog) 119).r t [x0,x1] h K Pn=ck true (bx x0 h fun v h=>ldn 2 h x1 fun v_1=>ldn 3 h v fun v=>(t.C 120).r [v_1,v] h (fun v h=>wTu v fun n g=>ck (Nat.ble 1 n) (wTu v fun n g_1=>ck (Nat.ble 2 n) (wTu v fun n g_2=>ck (Nat.ble 3 n) (jv (fun v h=>jv (fun v h=>jv K fun k=>wB (g 0) (k v h) (k (AV.bool false) h)) fun k=>wG true (g 0) (eqi v (mkI 0) fun v=>k v h) (k skipV h)) fun k=>wG true (g 0) (k (g_2 2) h) (k skipV h))))) Pn):=by kernel_rfl
theorem r_166_0 (t:Tb)(o:Nat)(h:H)(K:KVH)(y0 y1 y2 y3 x0 x1:AV):(compR Tryz.prog (drawsC Tryz.prog) (rdOf Tryz.prog 166 0 [15,6,3,2] 16)).r t o [y0,y1,y2,y3] [x0,x1] h K=ck true (al 3 [mkI 0,mkI 0,AV.fz Fz.nil 0 0 fun _ _=>AV.any] h fun v h=>sto 3 h v x0 fun h=>wFr (gt h o) fun cd1 vs1 s1=>ck (s1.beq 0) (jn (fun l h=>finR o K 0 (AV.bool true) h) fun k=>fa 0 v fun v_1=>ld1 (st h o (CO.frm cd1 vs1 1)) v_1 fun v_2=>lt (mkI 3) v_2 fun v_3=>jv (fun v h=>jv (fun v h=>jv (fun v h=>jv (fun v h=>jn k fun k=>wB v (sto 1 h y3 (AV.bool false) fun h=>finR o K 2 (AV.bool false) h) (k [] h)) fun k=>wB v_3 (k v h) (k (AV.bool false) h)) fun k=>wG true v_3 (nei v (mkI 5) fun v=>k v h) (k skipV h)) fun k=>wG true v_3 (ld1 h v fun v=>k v h) (k skipV h)) fun k=>wG true v_3 (fa 0 v fun v=>k v (st h o (CO.frm cd1 vs1 1))) (k skipV (st h o (CO.frm cd1 vs1 1))))):=by kernel_rfl
theorem r_120_0 (t:Tb)(o:Nat)(h:H)(K:KVH)(y0 y1 y2 x0 x1:AV):(compR Tryz.prog (drawsC Tryz.prog) (rdOf Tryz.prog 120 0 [17,8,7] 32)).r t o [y0,y1,y2] [x0,x1] h K=ck true (al 3 [mkI 0,mkI 0,AV.fz Fz.nil 0 0 fun _ _=>AV.any] h fun v h=>sto 3 h v x0 fun h=>wFr (gt h o) fun cd1 vs1 s1=>ck (s1.beq 0) (jn (fun l h=>finR o K 0 (AV.bool true) h) fun k=>ld1 (st h o (CO.frm cd1 vs1 1)) y2 fun v_1=>jv (fun v h=>jv (fun v h=>jv (fun v h=>jv (fun v h=>sto 1 h y2 v fun h=>k [] h) fun k=>wB v_1 (k v h) (k (AV.bool false) h)) fun k=>wG true v_1 (nei v (mkI 1) fun v=>k v h) (k skipV h)) fun k=>wG true v_1 (ld1 h v fun v=>k v h) (k skipV h)) fun k=>wG true v_1 (fa 0 v fun v=>k v (st h o (CO.frm cd1 vs1 1))) (k skipV (st h o (CO.frm cd1 vs1 1))))):=by kernel_rfl
def valN (x:Tm):Bool:=decide (x.op≤3∨x.op=5)
def valT (t:Tm):Bool:=(po t).all valN
def groundT (t:Tm):Bool:=(po t).all fun x=>decide (¬x.op=1)
theorem po_all {t:Tm}{p:Tm→Bool}:(po t).all p=(pre t 1).all fun x=>p x.1:=by unfold po;rw[List.all_map];rfl
def vI (b:Bool)(_:Unit)(h:H):Prop:=3<h.n∧gt h 1=.cells 1 [.bool false]∧gt h 3=.frm (rdOf Tryz.prog 166 0 [15,6,3,2] 16) [.any,.any,.any,.ref 1 0] (bif b then 0 else 2)
theorem vMo:Mo vI:=by
 rintro b m h h' e ⟨h1,h2,h3⟩
 exact⟨Nat.lt_of_lt_of_le h1 e.n,by rw[e.k _ (by omega),h2],by rw[e.k _ h1,h3]⟩
theorem v_round (x:Tm × Int)(h:H)(K:KVH)(hI:vI true () h)(hK:∀h',Kp 3 h h'→vI (valN x.1) () h'→Ho (K (.bool (valN x.1)) h')) :
  Ho (wFr (gt h 3) fun cd vs st=>ck (Nat.beq st 0) ((compR Tryz.prog (drawsC Tryz.prog) cd).r (sem Tryz.prog) 3 vs [eT x.1,.int .i64 x.2] h K)):=by
 obtain⟨hn,g1,g3⟩:=hI
 rw[g3,s_wFr,show Nat.beq (bif true then 0 else 2) 0=true from rfl,s_ck,r_166_0]
 have G:=And.intro g1 <| And.intro g3 <| And.intro @cT_spl sP
 have fin:∀b,valN x.1=b→∀h',Kp 3 h h'→gt h' 1=.cells 1 [.bool false]→gt h' 3=.frm (rdOf Tryz.prog 166 0 [15,6,3,2] 16) [.any,.any,.any,.ref 1 0] (bif b then 0 else 2)→Ho (K (.bool b) h'):=fun b e h' h1 h2 h3=>by
  have:=hK h' h1
  rw[e] at this
  exact this ⟨Nat.lt_of_lt_of_le hn h1.n,h2,h3⟩
 unfold valN at fin
 refine onc G (ho_br (fun c=>?_) (fun c=>?_))
 ·refine onc (And.intro c G) (ho_br (fun c1=>?_) (fun c1=>?_))
  ·refine onc (And.intro c1 <| And.intro c G) ?_
   refine fin false (decide_eq_false fun e=>by omega) _ ⟨Nat.le_succ _,fun q h1 h2=>?_⟩ ?_ ?_
   all_goals simp(disch:=omega) only [sG,g1,s_spl0]
  ·refine onc (And.intro c1 <| And.intro c G) ?_
   refine fin true (decide_eq_true (by omega)) _ ⟨Nat.le_succ _,fun q h1 h2=>?_⟩ ?_ ?_
   all_goals simp(disch:=omega) only [sG,g1,s_spl0]
 ·refine onc (And.intro c G) ?_
  refine fin true (decide_eq_true (by omega)) _ ⟨Nat.le_succ _,fun q h1 h2=>?_⟩ ?_ ?_
  all_goals simp(disch:=omega) only [sG,g1,s_spl0]
theorem c_isValue (t:Tm)(hf:Few t):Pu Tryz.prog 166 [eT t] (.bool (valT t)):=by
 refine Pu.of prOk (by kernel_rfl) ⟨eT_below _,trivial⟩ ?_
 rw[t_166]
 refine onc sP ?_
 refine c_tnodes t ?_
 refine on ?_
 refine rg_tnodes (I:=vI) (step:=fun _ x=>((),valN x.1)) (s0:=()) vMo hf (by show 2<3;omega) ?_ ⟨by show 3<4;omega,?_,?_⟩ (fun m x h K hx hI hK=>v_round x h K hI hK) (fun h' hI=>?_)
 all_goals try (simp(disch:=omega) only [sG];done)
 rw[runL_all (p:=fun x:Tm × Int=>valN x.1)] at hI
 show Ho (wFr (gt h' 3) fun _ _ s=>_)
 obtain⟨hn,g1,g3⟩:=hI
 unfold valT
 rw[po_all]
 cases hb:(pre t 1).all (fun x=>valN x.1) with
 |true=>
  rw[hb] at g3
  refine onc (And.intro @gt_kill_ne <| And.intro g1 g3) ?_
  exact fin_b rfl
 |false=>
  rw[hb] at g3
  refine onc (And.intro @gt_kill_ne <| And.intro g1 g3) ?_
  exact fin_b rfl
def gI' (t:Tm)(_:Bool)(g:Bool)(h:H):Prop:=5<h.n∧gt h 1=.cells 3 (cT t)∧gt h 3=.cells 1 [.bool g]∧gt h 5=.frm (rdOf Tryz.prog 120 0 [17,8,7] 32) [.any,.any,.ref 3 0] 0
theorem gMo (t:Tm):Mo (gI' t):=by
 rintro b m h h' e ⟨h1,h2,h3,h4⟩
 have:=e.n
 exact⟨by omega,by rw[e.k _ (by omega),h2],by rw[e.k _ (by omega),h3],by rw[e.k _ h1,h4]⟩
def gStep (g:Bool)(x:Tm × Int):Bool × Bool:=(g&&decide (¬x.1.op=1),true)
theorem g_run:∀(L:List (Tm × Int)) (g:Bool),runL gStep g L=(g&&L.all (fun x=>decide (¬x.1.op=1)),true)
 |[],g=>by simp[runL]
 |x::r,g=>by
  show runL gStep (g&&decide (¬x.1.op=1)) r=_
  rw[g_run r,List.all_cons,Bool.and_assoc]
theorem g_round (t:Tm)(g:Bool)(x:Tm × Int)(h:H)(K:KVH)(hI:gI' t true g h)(hK:∀h',Kp 5 h h'→gI' t (gStep g x).2 (gStep g x).1 h'→Ho (K (.bool (gStep g x).2) h')) :
  Ho (wFr (gt h 5) fun cd vs st=>ck (Nat.beq st 0) ((compR Tryz.prog (drawsC Tryz.prog) cd).r (sem Tryz.prog) 5 vs [eT x.1,.int .i64 x.2] h K)):=by
 obtain⟨hn,g1,g3,g5⟩:=hI
 rw[g5,s_wFr,show Nat.beq 0 0=true from rfl,s_ck,r_120_0]
 have G:=And.intro g1 <| And.intro g3 <| And.intro g5 <| And.intro @cT_spl sP
 have fin:∀b,(g&&decide (¬x.1.op=1))=b→∀h',Kp 5 h h'→gt h' 1=.cells 3 (cT t)→gt h' 3=.cells 1 [.bool b]→gt h' 5=.frm (rdOf Tryz.prog 120 0 [17,8,7] 32) [.any,.any,.ref 3 0] 0→Ho (K (.bool true) h'):=fun b e h' h1 h2 h3 h4=>by
  refine hK h' h1 ⟨Nat.lt_of_lt_of_le hn h1.n,h2,?_,h4⟩
  show gt h' 3=.cells 1 [.bool (g&&decide (¬x.1.op=1))]
  rw[e];exact h3
 cases g with
 |false=>
  refine onc G ?_
  refine fin false rfl _ ⟨Nat.le_succ _,fun q h1 h2=>?_⟩ ?_ ?_ ?_
  all_goals simp(disch:=omega) only [sG,g1,g3,s_spl0]
 |true=>
  refine onc G ?_
  refine fin _ rfl _ ⟨Nat.le_succ _,fun q h1 h2=>?_⟩ ?_ ?_ ?_
  all_goals simp(disch:=omega) only [sG,g1,g3,s_spl0,Bool.true_and]
theorem c_IsValue (s:Sg)(t:Tm)(hs:smallSg s)(hf:Few t):Pu Tryz.prog 120 [eS' s,eT t] (if sigOk s∧termOk s t then .tup 3 (nx [.bool (valT t),.bool (valT t&&groundT t),.int .i64 0]) else .tup 3 (nx [.bool false,.bool false,.int .i64 2])):=by
 refine Pu.of prOk (by kernel_rfl) ⟨eS_below _,eT_below _,trivial⟩ ?_
 rw[t_120]
 have fin:∀(y0 y1:Bool) (e:Int) (h:H),Ho (fin Tryz.prog (.tup 3 (nx [.bool y0,.bool y1,.int .i64 e])) (.tup 3 (nx [.bool y0,.bool y1,.int .i64 e])) h):=fun y0 y1 e h=>ho_fin (Fzs.of (allN_iff.2 (lt3 trivial trivial trivial)))
 refine onc (And.intro @cT_spl sP) ?_
 refine(c_right1 s t hs hf).callZ (.cons (frz_S s) (.cons (frz_T1 (gt_nw _ _)) .nil)) (LeL.same (LeL.cons le_T1 LeL.nil)) (fz_T1 (gt_nw _ _)) ?_
 by_cases c:sigOk s∧termOk s t
 ·rw[decide_eq_true c,if_pos c]
  refine onc sP ?_
  refine c_tnodes t ?_
  refine on ?_
  refine rg_tnodes (I:=gI' t) (step:=gStep) (s0:=true) (gMo t) hf (by show 4<5;omega) ?_ ⟨by show 5<6;omega,?_,?_,?_⟩ (fun m x h K hx hI hK=>g_round t m x h K hI hK) (fun h' hI=>?_)
  all_goals try (simp(disch:=omega) only [sG];done)
  show Ho (wFr (gt h' 5) fun _ _ s=>_)
  rw[g_run,Bool.true_and] at hI
  obtain⟨hn,g1,g3,g5⟩:=hI
  have hg:(pre t 1).all (fun x=>decide (¬x.1.op=1))=groundT t:=by unfold groundT;rw[po_all]
  rw[hg] at g3
  refine onc (And.intro @gt_kill_ne <| And.intro g1 <| And.intro g3 <| And.intro g5 sP) ?_
  refine(c_isValue t hf).call ?_
  cases hv:valT t with
  |true=>
   refine onc (And.intro @gt_kill_ne <| And.intro g3 sP) ?_
   rw[Sv.bool,Bool.true_and]
   exact fin _ _ _ _
  |false=>
   refine onc (And.intro @s_svS <| And.intro @gt_kill_ne <| And.intro g3 sP) ?_
   exact fin _ _ _ _
 ·rw[decide_eq_false c,if_neg c]
  refine onc sP ?_
  exact fin _ _ _ _
structure valuesP (s:Sg)(n:Int)(l:List Tm):Prop where
 f1:(l.length:Int)=(s.funs.getD n.toNat default).args
 f2:∀t,t∈l→termOk s t∧valT t=true
instance (s:Sg)(n:Int)(l:List Tm):Decidable (valuesP s n l):=Classical.propDecidable _
theorem c_values (s:Sg)(n:Int)(k:Fz)(l:List Tm)(hs:smallSg s)(hok:sigOk s)(hn1:0≤n)(hn2:n<s.funs.length)(hl:smallTs l):Pu Tryz.prog 69 [eS' s,.int .i64 n,eTs k l] (.bool (decide (valuesP s n l))):=by
 refine Pu.of prOk (by kernel_rfl) ⟨eS_below _,trivial,trivial,trivial⟩ ?_
 have hl6:=hl.f1
 have hs2:=hs.f2
 rw[t_69]
 refine onc sP (ho_br (fun c=>?_) (fun c=>?_))
 ·refine onc (And.intro c sP) ?_
  refine c_allT (o:=0) (I:=fun _ (_:Unit) h=>0<h.n∧gt h 0=.cells 2 (cS s)) (step:=fun _ t=>((),decide (termOk s t∧valT t=true))) (D:=Few) ?_ ?_ (fun F=>s_clfn) k l (by omega) (fun t ht=>(hl.f2 t ht).few) () _ (by show 0<1;omega) ⟨by show 0<1;omega,gt_nw h0 _⟩ (fun h' _ _=>?_)
  ·intro _ t h K hf ⟨hn,hg⟩ hK
   refine ho_cl ?_
   show Ho (((sem Tryz.prog).C 119).r [eT t,.ref 0 0] h K noP)
   refine sem_fn prOk (by kernel_rfl) ?_
   rw[t_119]
   refine onc (And.intro hg sP) ?_
   refine(c_IsValue s t hs hf).call ?_
   have fin:Ho (K (.bool (decide (termOk s t∧valT t=true))) (nw h (.cells 3 (cT t)))):=hK (nw h (.cells 3 (cT t))) (Ex.refl h).nw.kp ⟨Nat.lt_succ_of_lt hn,by rw[gt_nw_ne h _ (by omega)];exact hg⟩
   by_cases c1:termOk s t
   ·rw[if_pos ⟨hok,c1⟩]
    cases hv:valT t with
    |true=>
     rw[decide_eq_true ⟨c1,hv⟩] at fin
     refine on ?_
     exact fin
    |false=>
     rw[decide_eq_false (fun e=>by rw[hv] at e;exact absurd e.2 (by decide))] at fin
     refine on ?_
     exact fin
   ·rw[if_neg (fun e=>c1 e.2)]
    rw[decide_eq_false (fun e=>c1 e.1)] at fin
    refine on ?_
    exact fin
  ·rintro _ _ h h' e ⟨h3,h4⟩
   exact⟨Nat.lt_of_lt_of_le h3 e.n,by rw[e.k _ h3,h4]⟩
  ·rw[runL_all]
   generalize hd:decide (valuesP s n l)=b
   refine onc c ?_
   refine fin_b (Eq.trans ?_ hd)
   rw[←dB (l.all _)]
   refine decide_eq_decide.2 ?_
   rw[List.all_eq_true]
   exact⟨fun h=>⟨c,fun t ht=>of_decide_eq_true (h t ht)⟩,fun h t ht=>decide_eq_true (h.f2 t ht)⟩
 ·refine onc (And.intro c sP) ?_
  exact fin_b (decide_eq_false fun e=>c e.f1).symm
end
end Go.Proofs.YtgmjpmeddajmgaaGreat
namespace Go.Proofs.YtgmjpmeddajmgaaGreat
open Go Go.Avm Go.Bvm
set_option maxRecDepth 100000
set_option linter.unusedVariables false
set_option linter.unusedSimpArgs false
set_option linter.defProp false
noncomputable section
attribute [local irreducible] jn jv br lp ck iff wB wG wRef wSl wCl wAg wTu wStr wFn wIfc wInt wCe wRe wMp wFr ad sb ml lt le eqi nei eq1 isNil un cvt fa len lens ix ixA ixS ixV ld1 ldn sto al bx pt bs ms app cpy sli lkm mup men mst mrg srg snx mnx mtr tas lenm rgT rgE finR mfind mset mput wKey wMa sV sem fin Ho
theorem t_122 (t:Tb)(h:H)(K Pn:KVH)(x0 x1 x2:AV):(compF Tryz.prog (drawsC Tryz.prog) 122).r t [x0,x1,x2] h K Pn=ck true (bx x0 h fun v h=>bx x1 h fun v_1 h=>fa 0 v fun v_2=>ld1 h v_2 fun v_3=>eqi v_3 (mkI 1) fun v_4=>jn (fun l h=>e8 l fun x x_1 x_2 x_3 x_4 x_5 x_6 x_7=>fa 0 x_6 fun v=>ld1 h v fun v=>fa 0 x_5 fun v_5=>ld1 h v_5 fun v_6=>nei v v_6 fun v=>jv (fun v_7 h=>jv (fun v_8 h=>jv (fun v_9 h=>jv (fun v_10 h=>jv (fun v_11 h=>jv (fun v h=>jn (fun l h=>e8 l fun x x_8 x_9 x_10 x_11 x_12 x_13 x_14=>fa 2 x_13 fun v=>ld1 h v fun v=>len v fun v_12=>jn (fun l h=>K (AV.bool true) h) fun k=>lp (fun L l h=>e10 l fun x x_15 x_16 x_17 x_18 x_19 x_20 x_21 x_22 x_23=>lt x_16 x_17 fun v=>jn (fun l h=>e7 l fun x x_24 x_25 x_26 x_27 x_28 x_29=>jn (fun l h=>e10 l fun x x_30 x_31 x_32 x_33 x_34 x_35 x_36 x_37 x_38=>ad x_31 (mkI 1) fun v=>L [x,x_30,v,x_32,x_33,x_34,x_35,x_36,x_37,x_38] h) fun k=>ix 3 x_26 x_24 fun v=>ldn 3 h v fun v=>al 3 [mkI 0,mkI 0,AV.fz Fz.nil 0 0 fun _ _=>AV.any] h fun v_13 h=>sto 3 h v_13 v fun h=>fa 2 x_28 fun v=>ld1 h v fun v=>ix 3 v x_24 fun v=>ldn 3 h v fun v=>ldn 3 h v_13 fun v_14=>(t.C 122).r [v_14,v,x_29] h (fun v h=>un v fun v=>jn k fun k=>wB v (K (AV.bool false) h) (k [v,x,x_24,x_25,x_26,v_13,x_24,x_27,x_28,x_29] h)) Pn) fun k_1=>wB v (k_1 [v,x_16,x_17,x_18,x_21,x_22,x_23] h) (k [] h)) [x,x_8,mkI 0,v_12,v,x_9,x_10,x_11,x_12,x_14] h) fun k=>wB v (K (AV.bool false) h) (k [x,x_1,x_2,x_3,x_4,x_5,x_6,x_7] h)) fun k=>wB v (k (AV.bool true) h) (k v_11 h)) fun k=>wG false v (nei v_8 v_10 fun v=>k v h) (k skipV h)) fun k=>wG false v (ld1 h v_9 fun v=>k v h) (k skipV h)) fun k=>wG false v (fa 1 x_5 fun v=>k v h) (k skipV h)) fun k=>wG false v (ld1 h v_7 fun v=>k v h) (k skipV h)) fun k=>wG false v (fa 1 x_6 fun v=>k v h) (k skipV h)) fun k=>wB v_4 (fa 1 v fun v=>ld1 h v fun v=>ldn 3 h v_1 fun v_5=>mup 3 (keyC Tryz.prog 3) x2 v v_5 h fun h=>K (AV.bool true) h) (k [AV.any,AV.any,AV.any,AV.any,AV.bool false,v_1,v,x2] h)):=by kernel_rfl
theorem t_72 (t:Tb)(h:H)(K Pn:KVH)(x0 x1:AV):(compF Tryz.prog (drawsC Tryz.prog) 72).r t [x0,x1] h K Pn=ck true (bx x0 h fun v h=>fa 1 v fun v=>ld1 (nw h (CO.map (keyTy Tryz.prog 105) [])) v fun v=>len v fun v_1=>jn (fun l h=>e1 l fun x=>K (AV.tup 2 (nx [x,AV.bool true])) h) fun k=>lp (fun L l h=>e11 l fun x x_1 x_2 x_3 x_4 x_5 x_6 x_7 x_8 x_9 x_10=>lt x_2 x_3 fun v=>jn (fun l h=>e8 l fun x x_11 x_12 x_13 x_14 x_15 x_16 x_17=>jn (fun l h=>e11 l fun x x_18 x_19 x_20 x_21 x_22 x_23 x_24 x_25 x_26 x_27=>ad x_19 (mkI 1) fun v=>L [x,x_18,v,x_20,x_21,x_22,x_23,x_24,x_25,x_26,x_27] h) fun k=>ix 3 x_13 x_11 fun v=>ldn 3 h v fun v=>al 3 [mkI 0,mkI 0,AV.fz Fz.nil 0 0 fun _ _=>AV.any] h fun v_2 h=>sto 3 h v_2 v fun h=>ix 3 x_17 x_11 fun v=>ldn 3 h v fun v=>ldn 3 h v_2 fun v_3=>(t.C 122).r [v_3,v,x_14] h (fun v h=>un v fun v=>jn k fun k=>wB v (K (AV.tup 2 (nx [AV.nilm,AV.bool false])) h) (k [v,x,x_11,x_12,x_13,v_2,x_11,x_14,x_15,x_16,x_17] h)) Pn) fun k_1=>wB v (k_1 [v,x_2,x_3,x_4,x_7,x_8,x_9,x_10] h) (k [x_7] h)) [AV.any,AV.any,mkI 0,v_1,v,AV.any,AV.any,AV.mp h.2,AV.bool false,AV.nilm,x1] (nw h (CO.map (keyTy Tryz.prog 105) []))):=by kernel_rfl
abbrev TB:=List Int × (Int→Tm)
def tMap (s:TB):CO:=.map 3 (ent kI (fun n=>eT (s.2 n)) s.1)
def putT (s:TB)(n:Int)(v:Tm):TB:=(ins s.1 n,fun j=>if j=n then v else s.2 j)
mutual
def appT:Tm→Tm→TB→TB × Bool
 |.mk o n _ l,v,s=>if o=1 then(putT s n v,true) else if o≠v.op∨n≠v.n then(s,false) else appL l v.kids s
def appL:List Tm→List Tm→TB→TB × Bool
 |[],_,s=>(s,true)
 |p::r,vs,s=>if (appT p (vs.headD default) s).2=true then appL r vs.tail (appT p (vs.headD default) s).1 else((appT p (vs.headD default) s).1,false)
end
theorem appT_eq (p v:Tm)(s:TB):appT p v s=if p.op=1 then(putT s p.n v,true) else if p.op≠v.op∨p.n≠v.n then(s,false) else appL p.kids v.kids s:=by cases p;rw[appT];rfl
theorem appL_nil (vs:List Tm)(s:TB):appL [] vs s=(s,true):=by rw[appL]
theorem appL_drop {ps vs:List Tm}{i:Nat}(h1:i<ps.length)(h2:i<vs.length)(s:TB):appL (ps.drop i) (vs.drop i) s=if (appT (ps.getD i default) (vs.getD i default) s).2=true then appL (ps.drop (i+1)) (vs.drop (i+1)) (appT (ps.getD i default) (vs.getD i default) s).1 else((appT (ps.getD i default) (vs.getD i default) s).1,false):=by
 rw[drop_cons h1,drop_cons h2,appL];rfl
structure Xm (m:Nat)(h h':H):Prop where
 n:h.n≤h'.n
 k:∀q,q≠m→q<h.n→gt h' q=gt h q
theorem Xm.refl {m:Nat}(h:H):Xm m h h:=⟨Nat.le_refl _,fun _ _ _=>rfl⟩
theorem Ex.xm {m:Nat}{h h':H}(e:Ex h h'):Xm m h h':=⟨e.n,fun q _ hq=>e.k q hq⟩
theorem Xm.trans {m:Nat}{h h' h2:H}(a:Xm m h h')(b:Xm m h' h2):Xm m h h2:=⟨Nat.le_trans a.n b.n,fun q hm hq=>(b.k q hm (Nat.lt_of_lt_of_le hq a.n)).trans (a.k q hm hq)⟩
theorem nodesB_kids {s:Sg}{t:Tm}(h:nodesB s t=true):nodeB s t=true∧∀k,k∈t.kids→nodesB s k=true:=by
 rw[nodesB_eq,nodesBs_all,Bool.and_eq_true,List.all_eq_true] at h
 exact h
theorem shapeB_kids {t:Tm}(h:shapeB t=true):(t.op=1∨t.op=3)∧∀k,k∈t.kids→shapeB k=true:=by
 rw[shapeB_eq,shapesB_all,Bool.and_eq_true,List.all_eq_true,Bool.or_eq_true,decide_eq_true_eq,decide_eq_true_eq] at h
 exact⟨h.2,h.1⟩
theorem con_kids {s:Sg}{t:Tm}(h:nodeB s t=true)(hop:t.op=3):(t.kids.length:Int)=(s.cons.getD t.n.toNat default).args:=by
 unfold nodeB at h
 rw[if_neg (by omega),if_neg (by omega),if_pos hop] at h
 exact(of_decide_eq_true h).2
theorem var_n {s:Sg}{t:Tm}(h:nodeB s t=true)(hop:t.op=1):0≤t.n∧t.n≤19:=by
 unfold nodeB at h
 rw[if_pos hop] at h
 exact(of_decide_eq_true h).2
theorem putT_map {s:TB}{n:Int}{v:Tm}:upd (fun n=>eT (s.2 n)) n (eT v)=fun j=>eT ((putT s n v).2 j):=by
 funext j
 unfold upd putT
 show(if j=n then eT v else eT (s.2 j))=eT (if j=n then v else s.2 j)
 split <;> rfl
theorem c_apply {s:Sg}(m:Nat)(p:Tm):∀(B:Int) (v:Tm) (st0:TB) (h:H) (K:KVH),FewB B p→B≤1000→nodesB s p=true→shapeB p=true→nodesB s v=true→st0.1.Nodup→m<h.n→gt h m=tMap st0 →
  (∀h',Xm m h h'→(appT p v st0).1.1.Nodup→gt h' m=tMap (appT p v st0).1→Ho (K (.bool (appT p v st0).2) h'))→Ho (((sem Tryz.prog).C 122).r [eT p,eT v,.mp m] h K noP):=by
 induction p using Tm.rec' with
 |h p ih=>
 intro B v st0 h K hw hB hp hs hv hnd hm hg hK
 obtain⟨hB1,hkl,hk⟩:=hw.kids
 obtain⟨hp1,hp2⟩:=nodesB_kids hp
 obtain⟨hv1,hv2⟩:=nodesB_kids hv
 obtain⟨hs1,hs2⟩:=shapeB_kids hs
 have e0:Ex h (nw (nw h (.cells 3 (cT p))) (.cells 3 (cT v))):=(Ex.refl h).nw.nw
 rw[appT_eq] at hK
 refine sem_fn prOk (by kernel_rfl) ?_
 rw[t_122]
 by_cases c:p.op=1
 ·rw[if_pos c] at hK
  obtain⟨hn1,hn2⟩:=var_n hp1 c
  have hk:=keyI_ok (n:=p.n) (by omega) (by omega)
  unfold tMap at hg
  have hgm:gt (nw (nw h (.cells 3 (cT p))) (.cells 3 (cT v))) m=.map 3 (ent kI (fun n=>eT (st0.2 n)) st0.1):=by rw[e0.k _ hm,hg]
  have hu:=fun KH'=>s_mup (KH':=KH') (v:=eT v) isKeyI (keyI hk) hgm hnd rfl
  rw[putT_map] at hu
  refine onc (And.intro c <| And.intro hu sT) ?_
  exact hK _ ⟨e0.n,fun q h1 h2=>by rw[gt_st_ne _ _ h1];exact e0.k q h2⟩ (ins_nodup hnd) (gt_st _ _ _)
 rw[if_neg c] at hK
 have c3:=hs1.resolve_left c
 by_cases c1:p.op≠v.op∨p.n≠v.n
 ·rw[if_pos c1] at hK
  have fin:=hK _ e0.xm hnd (by rw[e0.k _ hm,hg])
  by_cases c2:p.op=v.op
  ·have c2':¬p.n=v.n:=c1.resolve_left fun e=>e c2
   rw[c3] at c2
   refine onc (And.intro c3 <| And.intro c2.symm <| And.intro c2' sT) ?_
   exact fin
  ·rw[c3] at c2
   refine onc (And.intro c3 <| And.intro c2 sT) ?_
   exact fin
 ·rw[if_neg c1] at hK
  have c2:p.op=v.op:=Classical.not_not.1 fun e=>c1 (.inl e)
  have c4:p.n=v.n:=Classical.not_not.1 fun e=>c1 (.inr e)
  have hlen:p.kids.length=v.kids.length:=by
   have h1:=con_kids hp1 c3
   have h2:=con_kids hv1 (by rw[←c2];exact c3)
   rw[←c4] at h2
   omega
  have c5:v.op=3:=by rw[←c2];exact c3
  refine onc (And.intro c3 <| And.intro c5 <| And.intro c4 sT) ?_
  refine ho_lp (fun (x:Nat × TB) l h'=>(∃a b c d e f,l=[a,b,.int .i64 x.1,.int .i64 p.kids.length,eTs p.k p.kids,c,d,e,.ref (h.n+1) 0,f]∧f=.mp m)∧Xm m (nw (nw h (.cells 3 (cT p))) (.cells 3 (cT v))) h'∧x.1≤p.kids.length∧x.2.1.Nodup∧gt h' m=tMap x.2∧appL p.kids v.kids st0=appL (p.kids.drop x.1) (v.kids.drop x.1) x.2) (fun x=>p.kids.length-x.1) (0,st0) ⟨⟨_,_,_,_,_,_,rfl,rfl⟩,Xm.refl _,Nat.zero_le _,hnd,by rw[e0.k _ hm,hg],rfl⟩ (by show p.kids.length-0<_;omega) ?_
  rintro ⟨i,st1⟩ l h' L ⟨⟨a,b,c',d,e,f,rfl,rfl⟩,hx,hi,hnd1,hg1,he⟩ ih'
  simp only at hi hnd1 hg1 he
  have n1:h.n+1+1≤h'.n:=hx.n
  have gv:gt h' (h.n+1)=.cells 3 (cT v):=by
   rw[hx.k _ (by omega) (by show h.n+1<h.n+1+1;omega)]
   exact gt_nw (nw h (.cells 3 (cT p))) _
  refine on (ho_br (fun c6=>?_) (fun c6=>?_))
  ·have hm1:p.kids.getD i default∈p.kids:=getD_mem (by omega)
   have hm2:v.kids.getD i default∈v.kids:=getD_mem (by omega)
   rw[appL_drop (by omega) (by omega)] at he
   refine onc (And.intro gv <| And.intro @cT_spl sT) ?_
   have e1:Ex h' (st (nw h' (.cells 3 [.int .i64 0,.int .i64 0,.fz .nil 0 0 fun _ _=>.any])) h'.n (.cells 3 (cT (p.kids.getD i default)))):=(Ex.refl h').nw.st (Nat.le_refl _)
   refine ih _ hm1 (B-1) _ st1 _ _ (hk _ hm1) (by omega) (hp2 _ hm1) (hs2 _ hm1) (hv2 _ hm2) hnd1 (by show m<h'.n+1;omega) (by rw[e1.k _ (by omega),hg1]) (fun h2 hx2 hnd2 hg2=>?_)
   cases hb:(appT (p.kids.getD i default) (v.kids.getD i default) st1).2 with
   |true=>
    rw[if_pos hb] at he
    refine on ?_
    exact ih' (i+1,_) _ _ ⟨⟨_,_,_,_,_,_,rfl,rfl⟩,(hx.trans e1.xm).trans hx2,by show i+1≤_;omega,hnd2,hg2,he⟩ (by show p.kids.length-(i+1)<p.kids.length-i;omega)
   |false=>
    rw[hb,if_neg (by decide)] at he
    refine on ?_
    rw[he] at hK
    exact hK h2 (((e0.xm.trans hx).trans e1.xm).trans hx2) hnd2 hg2
  ·rw[List.drop_eq_nil_of_le (by omega),appL_nil] at he
   refine on ?_
   rw[he] at hK
   exact hK h' (e0.xm.trans hx) hnd1 hg1
def t0:TB:=([],fun _=>default)
theorem c_applied {s:Sg}(r:Rl)(k:Fz)(l:List Tm)(hlen:r.pats.length=l.length)(hl:l.length≤1000)(hf:∀t,t∈r.pats→Few t)(hp:∀t,t∈r.pats→nodesB s t=true∧shapeB t=true)(hv:∀t,t∈l→nodesB s t=true){hs:H}{K:KVH}
  (hT:(appL r.pats l t0).2=true→∀h' m,Ex hs h'→hs.n≤m→m<h'.n→(appL r.pats l t0).1.1.Nodup→gt h' m=tMap (appL r.pats l t0).1→Ho (K (.tup 2 (nx [.mp m,.bool true])) h'))
  (hF:(appL r.pats l t0).2=false→∀h',Ex hs h'→Ho (K (.tup 2 (nx [.nilm,.bool false])) h')):Ho (((sem Tryz.prog).C 72).r [eR r,eTs k l] hs K noP):=by
 refine sem_fn prOk (by kernel_rfl) ?_
 rw[t_72]
 have hkt:keyTy Tryz.prog 105=3:=by kernel_rfl
 refine onc (And.intro hkt sP) ?_
 have e0:Ex hs (nw (nw hs (.cells 6 (cR r))) (.map 3 [])):=(Ex.refl hs).nw.nw
 refine ho_lp (fun (x:Nat × TB) v h=>(∃a b c d e f,v=[a,b,.int .i64 x.1,.int .i64 r.pats.length,eTs r.pk r.pats,c,d,.mp (hs.n+1),e,f,eTs k l])∧Ex hs h∧hs.n+1<h.n∧x.1≤r.pats.length∧x.2.1.Nodup∧gt h (hs.n+1)=tMap x.2∧appL r.pats l t0=appL (r.pats.drop x.1) (l.drop x.1) x.2) (fun x=>r.pats.length-x.1) (0,t0) ⟨⟨_,_,_,_,_,_,rfl⟩,e0,Nat.lt_succ_self _,Nat.zero_le _,List.nodup_nil,gt_nw (nw hs (.cells 6 (cR r))) _,rfl⟩ (by show r.pats.length-0<_;omega) ?_
 rintro ⟨i,st1⟩ v h L ⟨⟨a,b,c,d,e,f,rfl⟩,hex,hn,hi,hnd,hg,he⟩ ih
 simp only at hi hnd hg he
 refine on (ho_br (fun c1=>?_) (fun c1=>?_))
 ·have hm1:r.pats.getD i default∈r.pats:=getD_mem (by omega)
  have hm2:l.getD i default∈l:=getD_mem (by omega)
  rw[appL_drop (by omega) (by omega)] at he
  refine onc (And.intro @cT_spl sT) ?_
  have e1:Ex h (st (nw h (.cells 3 [.int .i64 0,.int .i64 0,.fz .nil 0 0 fun _ _=>.any])) h.n (.cells 3 (cT (r.pats.getD i default)))):=(Ex.refl h).nw.st (Nat.le_refl _)
  refine c_apply (hs.n+1) _ 1000 _ st1 _ _ (hf _ hm1).B (by omega) (hp _ hm1).1 (hp _ hm1).2 (hv _ hm2) hnd (by show hs.n+1<h.n+1;omega) (by rw[e1.k _ hn,hg]) (fun h2 hx2 hnd2 hg2=>?_)
  have ex2:Ex hs h2:=⟨Nat.le_trans hex.n (Nat.le_trans e1.n hx2.n),fun q hq=>by
   have:=hex.n
   rw[hx2.k q (by omega) (by show q<h.n+1;omega),e1.k q (by omega),hex.k q hq]⟩
  have n2:h.n+1≤h2.n:=hx2.n
  cases hb:(appT (r.pats.getD i default) (l.getD i default) st1).2 with
  |true=>
   rw[if_pos hb] at he
   refine on ?_
   exact ih (i+1,_) _ _ ⟨⟨_,_,_,_,_,_,rfl⟩,ex2,by omega,by show i+1≤_;omega,hnd2,hg2,he⟩ (by show r.pats.length-(i+1)<r.pats.length-i;omega)
  |false=>
   rw[hb,if_neg (by decide)] at he
   refine on ?_
   exact hF (by rw[he]) h2 ex2
 ·rw[List.drop_eq_nil_of_le (by omega),appL_nil] at he
  refine on ?_
  have hT':=hT (by rw[he]) h _ hex (Nat.le_succ _) hn
  rw[he] at hT'
  exact hT' hnd hg
end
end Go.Proofs.YtgmjpmeddajmgaaGreat
namespace Go.Proofs.YtgmjpmeddajmgaaGreat
open Go Go.Avm Go.Bvm
set_option maxRecDepth 100000
set_option linter.unusedVariables false
set_option linter.unusedSimpArgs false
set_option linter.defProp false
noncomputable section
attribute [local irreducible] jn jv br lp ck iff wB wG wRef wSl wCl wAg wTu wStr wFn wIfc wInt wCe wRe wMp wFr ad sb ml lt le eqi nei eq1 isNil un cvt fa len lens ix ixA ixS ixV ld1 ldn sto al bx pt bs ms app cpy sli lkm mup men mst mrg srg snx mnx mtr tas lenm rgT rgE finR mfind mset mput wKey wMa sV sem fin Ho
theorem t_121 (t:Tb)(h:H)(K Pn:KVH)(x0 x1:AV):(compF Tryz.prog (drawsC Tryz.prog) 121).r t [x0,x1] h K Pn=ck true (len x0 fun v=>jn (fun l h=>K (AV.int IntKind.i64 (Int.negSucc 0)) h) fun k=>lp (fun L l h=>e8 l fun x x_1 x_2 x_3 x_4 x_5 x_6 x_7=>lt x_2 x_3 fun v=>jn (fun l h=>e6 l fun x x_8 x_9 x_10 x_11 x_12=>jn (fun l h=>e8 l fun x x_13 x_14 x_15 x_16 x_17 x_18 x_19=>ad x_14 (mkI 1) fun v=>L [x,x_13,v,x_15,x_16,x_17,x_18,x_19] h) fun k=>ix 1 x_12 x_8 fun v=>ld1 h v fun v=>wFn x_11 (fun g na a nb b=>(t.C g).r (ap (tb na a) (v::tb nb b)) h (fun v h=>jn k fun k=>wB v (K x_8 h) (k [v,x,x_8,x_9,x_8,x_10,x_11,x_12] h)) Pn) fun o=>(t.R o).r [v] h (fun v h=>jn k fun k=>wB v (K x_8 h) (k [v,x,x_8,x_9,x_8,x_10,x_11,x_12] h)) Pn) fun k_1=>wB v (k_1 [v,x_2,x_3,x_5,x_6,x_7] h) (k [] h)) [AV.any,AV.any,mkI 0,v,AV.any,mkI 0,x1,x0] h):=by kernel_rfl
theorem t_70 (t:Tb)(h:H)(K Pn:KVH)(x0 x1:AV):(compF Tryz.prog (drawsC Tryz.prog) 70).r t [x0,x1] h K Pn=ck true ((t.C 121).r [x0,x1] h (fun v h=>eqi v (AV.int IntKind.i64 (Int.negSucc 0)) fun v_1=>jn (fun l h=>e7 l fun x x_1 x_2 x_3 x_4 x_5 x_6=>ad x_3 (mkI 1) fun v=>jn (fun l h=>e2 l fun x x_7=>sli 1 false x_7 (some x) none none fun v=>clr 1 v h fun x_8 h=>sli 1 false x_7 none (some x) none fun v=>K v h) fun k=>lp (fun L l h=>e8 l fun x x_7 x_8 x_9 x_10 x_11 x_12 x_13=>len x_13 fun v=>lt x_9 v fun v=>jn (fun l h=>e6 l fun x x_14 x_15 x_16 x_17 x_18=>jn (fun l h=>e8 l fun x x_19 x_20 x_21 x_22 x_23 x_24 x_25=>ad x_21 (mkI 1) fun v=>L [x,x_19,x_20,v,x_22,x_23,x_24,x_25] h) fun k=>ix 1 x_18 x_14 fun v=>ld1 h v fun v=>wFn x_17 (fun g na a nb b=>(t.C g).r (ap (tb na a) (v::tb nb b)) h (fun v_2 h=>un v_2 fun v_3=>jn k fun k=>wB v_3 (ix 1 x_18 x_15 fun v_4=>sto 1 h v_4 v fun h=>ad x_15 (mkI 1) fun v_5=>k [v_3,x,v,x_14,v_5,x_16,x_17,x_18] h) (k [v_3,x,v,x_14,x_15,x_16,x_17,x_18] h)) Pn) fun o=>(t.R o).r [v] h (fun v_2 h=>un v_2 fun v_3=>jn k fun k=>wB v_3 (ix 1 x_18 x_15 fun v_4=>sto 1 h v_4 v fun h=>ad x_15 (mkI 1) fun v_5=>k [v_3,x,v,x_14,v_5,x_16,x_17,x_18] h) (k [v_3,x,v,x_14,x_15,x_16,x_17,x_18] h)) Pn) fun k_1=>wB v (k_1 [v,x_9,x_10,x_11,x_12,x_13] h) (k [x_10,x_13] h)) [x,x_1,x_2,v,x_3,x_4,x_5,x_6] h) fun k=>wB v_1 (K x0 h) (k [AV.any,AV.any,AV.any,v,AV.fz Fz.nil 0 0 fun _ _=>AV.any,x1,x0] h)) Pn):=by kernel_rfl
theorem t_71 (t:Tb)(h:H)(K Pn:KVH)(x0 x1 x2:AV):(compF Tryz.prog (drawsC Tryz.prog) 71).r t [x0,x1,x2] h K Pn=ck true (ld1 h x2 fun v=>fa 2 x1 fun v_1=>ld1 h v_1 fun v_2=>ix 6 v_2 x0 fun v_3=>ldn 6 h v_3 fun v_4=>(t.C 72).r [v_4,v] h (fun v h=>wTu v fun n g=>ck (Nat.ble 2 n) (wTu v fun n g_1=>ck (Nat.ble 1 n) (un (g 1) fun v=>K v h))) Pn):=by kernel_rfl
theorem t_24 (t:Tb)(h:H)(K Pn:KVH)(x0 x1 x2:AV):(compF Tryz.prog (drawsC Tryz.prog) 24).r t [x0,x1,x2] h K Pn=ck true (bx x0 h fun v h=>bx x2 h fun v_1 h=>ldn 3 h v fun v_2=>(t.C 55).r [v_2,x1] h (fun v_3 h=>un v_3 fun v_4=>jv (fun v_5 h=>jv (fun v_6 h=>jv (fun v_7 h=>jv (fun v_8 h=>jv (fun v_9 h=>jv (fun v_10 h=>jv (fun v_11 h=>jn (fun l h=>e3 l fun x x_1 x_2=>ldn 3 h x_1 fun v=>(t.C 60).r [v,x_2] h (fun v h=>(t.C 70).r [v,AV.fn 71 0 (nx []) 2 (nx [x_1,x])] h (fun v h=>K (AV.tup 2 (nx [v,mkI 0])) h) Pn) Pn) fun k=>wB v_11 (K (AV.tup 2 (nx [AV.fz Fz.nil 0 0 fun _ _=>AV.any,mkI 2])) h) (k [v_1,v,x1] h)) fun k=>wB v_4 (k (AV.bool true) h) (k v_10 h)) fun k=>wG false v_4 (un v_9 fun v=>k v h) (k skipV h)) fun k=>wG false v_4 ((t.C 69).r [v_6,v_7,v_8] h k Pn) (k skipV h)) fun k=>wG false v_4 (ld1 h v_1 fun v=>k v h) (k skipV h)) fun k=>wG false v_4 (k x1 h) (k skipV h)) fun k=>wG false v_4 (ldn 2 h v_5 fun v=>k v h) (k skipV h)) fun k=>wG false v_4 (fa 0 v fun v=>k v h) (k skipV h)) Pn):=by kernel_rfl
theorem _root_.Go.Bvm.Gr.rd {w:Bool}{b:Nat}{h:H}{v:AV}{l:List Int}(g:Gr w b h v 1 (cells cI l) l.length):RdI h v l:=by
 rcases g with⟨h1,h2,hv⟩|⟨h1,o,rfl,_,_,h5,_⟩
 ·have:l=[]:=List.eq_nil_of_length_eq_zero h1
  subst this
  rcases hv with⟨_,s,g,rfl⟩|⟨_,g,rfl⟩|⟨o,rfl⟩
  ·exact RdI.nil
  ·exact RdI.nil
  ·exact⟨fun K=>s_leno,fun i hi=>absurd hi (by simp)⟩
 ·exact RdI.ow (by rw[h5,Nat.mul_one])
theorem c_ofOwn (p:Pg)(hl:p.rules.length≤1000)(n:Int){hs:H}{K:KVH}(hK:∀h' ov,Ex hs h'→Gr true hs.n h' ov 1 (cells cI (ofL p.rules 0 n)) (ofL p.rules 0 n).length→Ho (K ov h')):Ho (((sem Tryz.prog).C 60).r [eP p,.int .i64 n] hs K noP):=by
 refine sem_fn prOk (by kernel_rfl) ?_
 rw[t_60]
 refine onc sP ?_
 refine ho_lp (fun (x:Nat × List Int) v h=>(∃a b c d e ov,v=[a,b,.int .i64 x.1,.int .i64 p.rules.length,fzM p.rk 6 cR p.rules,c,d,ov,e,.int .i64 n]∧Gr true hs.n h ov 1 (cells cI x.2) x.2.length)∧Ex hs h∧x.1≤p.rules.length∧x.2.length≤x.1∧ofL p.rules 0 n=x.2++ofL (p.rules.drop x.1) x.1 n) (fun x=>p.rules.length-x.1) (0,[]) ⟨⟨_,_,_,_,_,_,rfl,Gr.nil⟩,(Ex.refl hs).nw,Nat.zero_le _,Nat.le_refl _,rfl⟩ (by show p.rules.length-0<_;omega) ?_
 rintro ⟨i,out⟩ v h L ⟨⟨a,b,c,d,e,ov,rfl,g⟩,hex,hi,ho,he⟩ ih
 simp only at hi ho he g
 have hn:=hex.n
 refine on (ho_br (fun c1=>?_) (fun c1=>?_))
 ·rw[drop_cons (l:=p.rules) (i:=i) (by omega),ofL] at he
  have e1:Ex h (st (nw h (.cells 6 [.int .i64 0,.fz .nil 0 0 fun _ _=>.any,.int .i64 0,.int .i64 0,.fz .nil 0 0 fun _ _=>.any,.int .i64 0])) h.n (.cells 6 (cR (p.rules.getD i default)))):=(Ex.refl h).nw.st (Nat.le_refl _)
  have hx:=g.keep e1.n (fun o _ ho=>e1.k o ho)
  have hsp:spl 0 (cR (p.rules.getD i default)) [.int .i64 0,.fz .nil 0 0 fun _ _=>.any,.int .i64 0,.int .i64 0,.fz .nil 0 0 fun _ _=>.any,.int .i64 0]=cR (p.rules.getD i default):=rfl
  refine onc (And.intro hsp sP) (ho_br (fun c2=>?_) (fun c2=>?_))
  ·rw[if_pos c2] at he
   refine onc c2 ?_
   refine hx.app1 rfl (by omega) (by omega) (by show hs.n≤h.n+1;omega) (fun v' h' g' hn' hq=>?_)
   refine on ?_
   exact ih (i+1,out++[(i:Int)]) _ _ ⟨⟨_,_,_,_,_,_,rfl,by
    show Gr true hs.n h' v' 1 (cells cI (out++[(i:Int)])) (out++[(i:Int)]).length
    rw[←cells_one,List.length_append]
    exact g'⟩,⟨by have:h.n+1≤h'.n:=hn';omega,fun q hq2=>by rw[hq q hq2,e1.k q (by omega),hex.k q hq2]⟩,by show i+1≤_;omega,by show(out++[(i:Int)]).length≤i+1;simp;omega,by rw[List.append_assoc];exact he⟩ (by show p.rules.length-(i+1)<p.rules.length-i;omega)
  ·rw[if_neg c2] at he
   refine onc c2 ?_
   exact ih (i+1,out) _ _ ⟨⟨_,_,_,_,_,_,rfl,hx⟩,hex.trans e1,by show i+1≤_;omega,by show out.length≤i+1;omega,he⟩ (by show p.rules.length-(i+1)<p.rules.length-i;omega)
 ·rw[List.drop_eq_nil_of_le (by omega),ofL,List.append_nil] at he
  refine on ?_
  rw[←he] at g
  exact hK h ov hex g
section
variable {x:AV}{o:Nat}{I:H→Prop}{p:Int→Bool}{D:Int→Prop}
theorem c_IndexF (hx:FnOk x o (fun n:Int=>[.int .i64 n]) (fun _ (_:Unit) h=>I h) (fun _ n=>((),p n)) D){l:List Int}(hl:l.length≤1000)(hD:∀n,n∈l→D n){v:AV}{hs:H}{b:Nat}(hb:o<b)(g:Gr true b hs v 1 (cells cI l) l.length)(hI:I hs){K:KVH}
  (hK:∀h' (i:Nat),Kp o hs h'→I h'→i<l.length→p (l.getD i default)=true→(∀n,n∈l.take i→p n=false)→Ho (K (.int .i64 i) h')) (hN:∀h',Kp o hs h'→I h'→(∀n,n∈l→p n=false)→Ho (K (.int .i64 (Int.negSucc 0)) h')):Ho (((sem Tryz.prog).C 121).r [v,x] hs K noP):=by
 refine sem_fn prOk (by kernel_rfl) ?_
 rw[t_121]
 refine onc g.rd.len ?_
 refine ho_lp (fun (i:Nat) y h=>(∃a b c d,y=[a,b,.int .i64 i,.int .i64 l.length,c,d,x,v])∧Kp o hs h∧I h∧i≤l.length∧∀n,n∈l.take i→p n=false) (fun i=>l.length-i) 0 ⟨⟨_,_,_,_,rfl⟩,Kp.refl _,hI,Nat.zero_le _,fun n hn=>by cases hn⟩ (by omega) ?_
 rintro i y h L ⟨⟨a,b',c,d,rfl⟩,hk,hI',hi,hm⟩ ih
 have g':=g.keep hk.n (fun q h1 h2=>hk.k q (by omega) h2)
 refine on (ho_br (fun c1=>?_) (fun c1=>?_))
 ·obtain⟨pl,e1,e2⟩:=g'.rd.at_ i (by omega)
  refine onc (And.intro e1 e2) ?_
  refine hx () (l.getD i default) _ _ (hD _ (getD_mem (by omega))) hI' (fun h' hk' hI2=>?_)
  cases hb:p (l.getD i default) with
  |true=>
   refine onc hb ?_
   exact hK h' i (hk.trans hk') hI2 (by omega) hb hm
  |false=>
   refine onc hb ?_
   exact ih (i+1) _ _ ⟨⟨_,_,_,_,rfl⟩,hk.trans hk',hI2,by omega,all_snoc (by omega) hm hb⟩ (by omega)
 ·rw[List.take_of_length_le (by omega)] at hm
  exact hN h hk hI' hm
theorem set_cells {M:List Int}{i:Nat}{n:Int}(h:i<M.length):spl i [.int .i64 n] (cells cI M)=cells cI (M.set i n):=by
 rw[spl1_set (by rw[cI_cells_len];exact h),cI_cells,cI_cells,List.map_set]
theorem take_set {M:List Int}{i:Nat}{n:Int}(h:i<M.length):(M.set i n).take (i+1)=M.take i++[n]:=by
 rw[take_snoc (by rw[List.length_set];exact h),List.take_set_of_le (Nat.le_refl _),List.getD_eq_getElem?_getD,List.getElem?_set_self (by exact h)]
 rfl
theorem filter_snoc {l:List Int}{q:Int→Bool}{j:Nat}(h:j<l.length):(l.take (j+1)).filter q=if q (l.getD j default)=true then(l.take j).filter q++[l.getD j default] else(l.take j).filter q:=by
 rw[take_snoc h,List.filter_append]
 cases hb:q (l.getD j default) with
 |true=>rw[if_pos rfl,List.filter_cons_of_pos hb];rfl
 |false=>rw[if_neg (by decide),List.filter_cons_of_neg (by rw[hb];decide)];exact List.append_nil _
theorem c_DeleteF (hx:FnOk x o (fun n:Int=>[.int .i64 n]) (fun _ (_:Unit) h=>I h) (fun _ n=>((),p n)) D)(hm:∀h h',h.n≤h'.n→(∀q,q≤o→gt h' q=gt h q)→I h→I h'){l:List Int}(hl:l.length≤1000)(hD:∀n,n∈l→D n){v:AV}{hs:H}{b:Nat}(hb:o<b)(g:Gr true b hs v 1 (cells cI l) l.length)(hI:I hs){K:KVH}
  (hK:∀h' v',(∀P,Fzs P h' v' (eI .may (l.filter fun n=> !p n)))→Ho (K v' h')):Ho (((sem Tryz.prog).C 70).r [v,x] hs K noP):=by
 refine sem_fn prOk (by kernel_rfl) ?_
 rw[t_70]
 refine on ?_
 refine c_IndexF hx hl hD hb g hI (fun h1 i hk1 hI1 hi hpi hbef=>?_) (fun h1 hk1 hI1 hall=>?_)
 case refine_2=>
  refine onc (@eq_self Int) ?_
  have g1:=g.keep hk1.n (fun q h1 h2=>hk1.k q (by omega) h2)
  have hf:l.filter (fun n=> !p n)=l:=List.filter_eq_self.2 fun n hn=>by rw[hall n hn];rfl
  rw[hf] at hK
  exact hK h1 v fun P=>(g1.fz rfl rfl cI_len (by omega) (fun x _=>cI_below x)).le le_auto_may
 have g1:=g.keep hk1.n (fun q h1 h2=>hk1.k q (by omega) h2)
 rcases g1 with⟨g0,_⟩|⟨_,ob,rfl,g2,g3,g4,_⟩
 ·omega
 have hi':¬((i:Nat):Int)=Int.negSucc 0:=by omega
 have hf0:(l.take (i+1)).filter (fun n=> !p n)=l.take i:=by
  rw[filter_snoc hi,if_neg (by rw[hpi];decide)]
  exact List.filter_eq_self.2 fun n hn=>by rw[hbef n hn];rfl
 have hlen0:((l.take (i+1)).filter (fun n=> !p n)).length=i:=by rw[hf0,List.length_take];omega
 refine onc hi' ?_
 refine ho_lp (fun (y:Nat × List Int) z h=>(∃a b c d,z=[a,b,c,.int .i64 y.1,.int .i64 ((l.take y.1).filter (fun n=> !p n)).length,d,x,.ow true ob l.length 1])∧(I h∧ob<h.n)∧y.1≤l.length∧((l.take y.1).filter (fun n=> !p n)).length<y.1∧y.2.length=l.length∧y.2.take ((l.take y.1).filter (fun n=> !p n)).length=(l.take y.1).filter (fun n=> !p n)∧y.2.drop y.1=l.drop y.1∧gt h ob=.cells l.length (cells cI y.2)) (fun y=>l.length-y.1) (i+1,l) ⟨⟨_,_,_,_,by simp only[hlen0];rfl⟩,⟨hI1,g3⟩,by show i+1≤_;omega,?_,rfl,?_,rfl,by rw[g4,Nat.mul_one]⟩ (by show l.length-(i+1)<_;omega) ?_
 ·show((l.take (i+1)).filter (fun n=> !p n)).length<i+1
  rw[hf0,List.length_take];omega
 ·show l.take ((l.take (i+1)).filter (fun n=> !p n)).length=(l.take (i+1)).filter (fun n=> !p n)
  rw[hf0,List.length_take,Nat.min_eq_left (by omega)]
 rintro ⟨j,M⟩ z h L ⟨⟨a,b',c,d,rfl⟩,⟨hI2,hob⟩,hj,hlt,hM1,hM2,hM3,hg⟩ ih
 simp only at hj hlt hM1 hM2 hM3 hg
 refine on (ho_br (fun c1=>?_) (fun c1=>?_))
 ·have hj':j<l.length:=by omega
  have hMj:M.getD j default=l.getD j default:=by
   have h1:=drop_cons (l:=M) (i:=j) (by omega)
   have h2:=drop_cons (l:=l) (i:=j) hj'
   rw[hM3,h2] at h1
   injection h1 with h1 _
   exact h1.symm
  have hcell:nx (cells cI M) j=.int .i64 (l.getD j default):=by rw[cI_at (by omega),hMj]
  refine onc (And.intro hg <| And.intro hcell <| And.intro @Nat.mul_one @Int.toNat_natCast) ?_
  refine hx () (l.getD j default) _ _ (hD _ (getD_mem hj')) hI2 (fun h' hk' hI3=>?_)
  have hg':gt h' ob=.cells l.length (cells cI M):=by rw[hk'.k _ (by omega) hob,hg]
  have hn':=hk'.n
  have hfs:=filter_snoc (q:=fun n=> !p n) hj'
  cases hb2:p (l.getD j default) with
  |true=>
   rw[if_neg (by rw[hb2];decide)] at hfs
   refine onc hb2 ?_
   exact ih (j+1,M) _ _ ⟨⟨_,_,_,_,by rw[hfs];rfl⟩,⟨hI3,by omega⟩,by show j+1≤_;omega,by show(List.filter _ (l.take (j+1))).length<j+1;rw[hfs];omega,hM1,by show M.take (List.filter _ (l.take (j+1))).length=List.filter _ (l.take (j+1));rw[hfs];exact hM2,by
    show M.drop (j+1)=l.drop (j+1)
    rw[←List.drop_drop,←List.drop_drop,hM3],hg'⟩ (by show l.length-(j+1)<l.length-j;omega)
  |false=>
   rw[if_pos (by rw[hb2];rfl)] at hfs
   have hset:=set_cells (M:=M) (i:=((l.take j).filter (fun n=> !p n)).length) (n:=l.getD j default) (by omega)
   refine onc (And.intro hb2 <| And.intro hg' <| And.intro hset <| And.intro @Nat.mul_one @Int.toNat_natCast) ?_
   have hlen:(List.filter (fun n=> !p n) (l.take (j+1))).length=(List.filter (fun n=> !p n) (l.take j)).length+1:=by rw[hfs,List.length_append];rfl
   refine ih (j+1,M.set ((l.take j).filter (fun n=> !p n)).length (l.getD j default)) _ _ ⟨⟨_,_,_,_,by simp only[hlen];rfl⟩,⟨?_,by show ob<h'.n;omega⟩,by show j+1≤_;omega,?_,?_,?_,?_,gt_st _ _ _⟩ (by show l.length-(j+1)<l.length-j;omega)
   ·exact hm h' _ (Nat.le_refl _) (fun q hq=>gt_st_ne _ _ (by omega)) hI3
   ·show(List.filter _ (l.take (j+1))).length<j+1
    rw[hlen];omega
   ·show(M.set _ _).length=_
    rw[List.length_set];exact hM1
   ·show(M.set _ _).take (List.filter _ (l.take (j+1))).length=List.filter _ (l.take (j+1))
    rw[hlen,take_set (by omega),hM2,hfs]
   ·show(M.set _ _).drop (j+1)=l.drop (j+1)
    rw[List.drop_set_of_lt (by omega),←List.drop_drop,←List.drop_drop,hM3]
 ·have hj':j=l.length:=by omega
  subst hj'
  rw[List.take_length] at hlt hM2 ⊢
  rw[s_sliO1 (by omega) (by omega),s_clrS hg (by omega) (Nat.le_refl _) (by omega),s_sliO2 (by omega) (by omega) (by omega)]
  refine hK _ _ fun P ok=>?_
  rw[Int.toNat_natCast]
  have ho:=(ok.cells (P:=P) (gt_st h ob _)).2
  refine(FzTo.sl (m:=0) ho (Nat.zero_le _) (by rw[Int.toNat_natCast];omega) (by omega) (by omega) (fun q hq=>.below ?_)).le (le_opn_may fun q c h1 h2=>?_)
  ·rw[Int.toNat_natCast] at hq
   rw[cI_at (by omega)];trivial
  ·have hc0:c=0:=by omega
   subst hc0
   show nx (cells cI M) (0*1+q*1+0)=nx (((l.filter fun n=> !p n).map cI).getD q []) 0
   rw[map_getD h1,Nat.zero_mul,Nat.zero_add,Nat.mul_one,Nat.add_zero,cI_at (by omega),←hM2,List.getD_eq_getElem?_getD,List.getD_eq_getElem?_getD,List.getElem?_take,if_pos h1];rfl
end
end
end Go.Proofs.YtgmjpmeddajmgaaGreat
namespace Go.Proofs.YtgmjpmeddajmgaaGreat
open Go Go.Avm Go.Bvm
set_option maxRecDepth 100000
set_option linter.unusedVariables false
set_option linter.unusedSimpArgs false
set_option linter.defProp false
noncomputable section
attribute [local irreducible] jn jv br lp ck iff wB wG wRef wSl wCl wAg wTu wStr wFn wIfc wInt wCe wRe wMp wFr ad sb ml lt le eqi nei eq1 isNil un cvt fa len lens ix ixA ixS ixV ld1 ldn sto al bx pt bs ms app cpy sli lkm mup men mst mrg srg snx mnx mtr tas lenm rgT rgE finR mfind mset mput wKey wMa sV sem fin Ho
theorem ofL_mem:∀{l:List Rl} {i n j:Int},j∈ofL l i n→i≤j∧j<i+l.length∧(l.getD (j-i).toNat default).fn=n
 |[],_,_,_,h=>by cases h
 |r::l,i,n,j,h=>by
  rw[ofL] at h
  have key:j∈ofL l (i+1) n→i≤j∧j<i+(r::l).length∧((r::l).getD (j-i).toNat default).fn=n:=fun h=>by
   obtain⟨h1,h2,h3⟩:=ofL_mem h
   rw[List.length_cons]
   refine⟨by omega,by omega,?_⟩
   rw[show(j-i).toNat=(j-(i+1)).toNat+1 by omega]
   exact h3
  split at h
  ·rename_i c
   rcases List.mem_cons.1 h with rfl|h
   ·rw[List.length_cons]
    refine⟨Int.le_refl _,by omega,?_⟩
    rw[show(j-j).toNat=0 by omega]
    exact c
   ·exact key h
  ·exact key h
def mB (p:Pg)(l:List Tm)(i:Int):Bool:=(appL (p.rules.getD i.toNat default).pats l t0).2
def matL (p:Pg)(n:Int)(l:List Tm):List Int:=(ofL p.rules 0 n).filter (mB p l)
def pairM (l:List Int)(e:Int):AV:=.tup 2 (nx [eI .may l,.int .i64 e])
theorem pat_hyp {s:Sg}{l:List Tm}(h:∀t,t∈l→termOk s t∧patOk t):∀t,t∈l→nodesB s t=true∧shapeB t=true:=fun t ht=>⟨(h t ht).1.f2,(h t ht).2.f2⟩
theorem c_Matches (p:Pg)(n:Int)(k:Fz)(l:List Tm)(hp:smallP p)(hl:smallTs l):Pu Tryz.prog 24 [eP p,.int .i64 n,eTs k l] (if progP p∧funIn p n∧valuesP p.sig n l then pairM (matL p n l) 0 else pairM [] 2):=by
 refine Pu.of prOk (by kernel_rfl) ⟨eP_below _,trivial,trivial,trivial⟩ ?_
 rw[t_24]
 have hp1:=hp.f1
 have hl6:=hl.f1
 have bad:∀h,Ho (fin Tryz.prog (pairM [] 2) (.tup 2 (nx [.fz .nil 0 0 fun _ _=>.any,.int .i64 2])) h):=fun h=>ho_fin (Fzs.tup fun j hj=>match j,hj with|0,_=>fun _=>(FzTo.below (v:=.fz .nil 0 0 fun _ _=>.any) trivial).le (fun FM ρ w hw=>le_auto_may _ _ _ (Le.nil_auto _ _ _ hw))|1,_=>Fzs.of trivial)
 refine onc sP ?_
 refine(c_hasP p hp n).call ?_
 by_cases c:progP p∧funIn p n
 case neg=>
  rw[if_neg (fun e=>c ⟨e.1,e.2.1⟩),decide_eq_false c]
  refine onc sP ?_
  exact bad _
 rw[decide_eq_true c]
 refine onc sP ?_
 refine(c_values p.sig n k l hp.f3 c.1.f2 c.2.1 c.2.2 hl).le (LeL.cons (le_sig p) LeL.same2) ?_
 by_cases c1:valuesP p.sig n l
 case neg=>
  rw[if_neg (fun e=>c1 e.2.2),decide_eq_false c1]
  refine onc sP ?_
  exact bad _
 rw[if_pos ⟨c.1,c.2,c1⟩,decide_eq_true c1]
 refine onc sP ?_
 refine c_ofOwn p (by omega) n (fun h1 ov ex1 g=>?_)
 refine on ?_
 have n1:2≤h1.n:=ex1.n
 have hol:=ofL_len p.rules 0 n
 refine c_DeleteF (o:=1) (I:=fun h=>1<h.n∧gt h 0=.cells 3 (cP p)∧gt h 1=.cells 1 [eTs k l]) (p:=fun i=> !mB p l i) (D:=fun i=>i∈ofL p.rules 0 n) ?_ ?_ (by omega) (fun _ h=>h) (b:=2) (by omega) g ⟨by omega,?_,?_⟩ (fun h' v' hf=>?_)
 ·rintro _ i h K hD ⟨hn,g0,g1⟩ hK
  obtain⟨d1,d2,d3⟩:=ofL_mem hD
  rw[Int.sub_zero] at d3
  have hmem:p.rules.getD i.toNat default∈p.rules:=getD_mem (by omega)
  have hR:=c.1.f3 _ hmem
  have hS:=hp.f2 _ hmem
  refine ho_cl ?_
  show Ho (((sem Tryz.prog).C 71).r [.int .i64 i,.ref 0 0,.ref 1 0] h K noP)
  refine sem_fn prOk (by kernel_rfl) ?_
  rw[t_71]
  refine onc (And.intro g0 <| And.intro g1 sP) ?_
  have hlen:(p.rules.getD i.toNat default).pats.length=l.length:=by
   have h1:=hR.f3
   have h2:=c1.f1
   rw[d3] at h1
   omega
  refine c_applied (s:=p.sig) _ k l hlen (by omega) (fun t ht=>(hS.f1.f2 t ht).few) (pat_hyp hR.f6) (fun t ht=>(c1.f2 t ht).1.f2) (fun hb h2 m ex2 _ _ _ _=>?_) (fun hb h2 ex2=>?_)
  ·refine on ?_
   have:=hK h2 ex2.kp ⟨Nat.lt_of_lt_of_le hn ex2.n,by rw[ex2.k _ (by omega),g0],by rw[ex2.k _ hn,g1]⟩
   have e:mB p l i=true:=hb
   simp only[e] at this
   exact this
  ·refine on ?_
   have:=hK h2 ex2.kp ⟨Nat.lt_of_lt_of_le hn ex2.n,by rw[ex2.k _ (by omega),g0],by rw[ex2.k _ hn,g1]⟩
   have e:mB p l i=false:=hb
   simp only[e] at this
   exact this
 ·rintro h h' hn hq ⟨i1,i2,i3⟩
  exact⟨by omega,by rw[hq 0 (by omega),i2],by rw[hq 1 (by omega),i3]⟩
 ·rw[ex1.k _ (by show 0<2;omega)];simp(disch:=omega) only [sG]
 ·rw[ex1.k _ (by show 1<2;omega)];simp(disch:=omega) only [sG]
 ·refine on ?_
  have he:(ofL p.rules 0 n).filter (fun i=> !(!mB p l i))=matL p n l:=by unfold matL;congr 1;funext i;rw[Bool.not_not]
  rw[he] at hf
  exact ho_fin (Fzs.tup fun j hj=>match j,hj with|0,_=>hf _|1,_=>Fzs.of trivial)
end
end Go.Proofs.YtgmjpmeddajmgaaGreat
namespace Go.Proofs.YtgmjpmeddajmgaaGreat
open Go Go.Avm Go.Bvm
set_option maxRecDepth 100000
set_option linter.unusedVariables false
set_option linter.unusedSimpArgs false
set_option linter.defProp false
noncomputable section
attribute [local irreducible] jn jv br lp ck iff wB wG wRef wSl wCl wAg wTu wStr wFn wIfc wInt wCe wRe wMp wFr ad sb ml lt le eqi nei eq1 isNil un cvt fa len lens ix ixA ixS ixV ld1 ldn sto al bx pt bs ms app cpy sli lkm mup men mst mrg srg snx mnx mtr tas lenm rgT rgE finR mfind mset mput wKey wMa sV sem fin Ho
theorem t_74 (t:Tb)(h:H)(K Pn:KVH)(x0:AV):(compF Tryz.prog (drawsC Tryz.prog) 74).r t [x0] h K Pn=ck true ((t.C 127).r [x0] h (fun v h=>len v fun v_1=>jn (fun l h=>e1 l fun x=>K x h) fun k=>lp (fun L l h=>e8 l fun x x_1 x_2 x_3 x_4 x_5 x_6 x_7=>lt x_1 x_2 fun v=>jn (fun l h=>e6 l fun x x_8 x_9 x_10 x_11 x_12=>jn (fun l h=>e8 l fun x x_13 x_14 x_15 x_16 x_17 x_18 x_19=>ad x_13 (mkI 1) fun v=>L [x,v,x_14,x_15,x_16,x_17,x_18,x_19] h) fun k=>ix 3 x_10 x_8 fun v=>ldn 3 h v fun v=>al 3 [mkI 0,mkI 0,AV.fz Fz.nil 0 0 fun _ _=>AV.any] h fun v_2 h=>sto 3 h v_2 v fun h=>fa 2 v_2 fun v=>ld1 h v fun v=>(t.C 74).r [v] h (fun v h=>ix 3 x_11 x_8 fun v_3=>fa 2 v_3 fun v_4=>sto 1 h v_4 v fun h=>k [x,x_8,x_9,x_10,v_2,x_8,x_11,x_12] h) Pn) fun k_1=>wB v (k_1 [v,x_1,x_2,x_3,x_6,x_7] h) (k [x_6] h)) [AV.any,mkI 0,v_1,v,AV.any,AV.any,v,AV.fz Fz.nil 0 0 fun _ _=>AV.any] h) Pn):=by kernel_rfl
theorem t_127 (t:Tb)(h:H)(K Pn:KVH)(x0:AV):(compF Tryz.prog (drawsC Tryz.prog) 127).r t [x0] h K Pn=ck true (isNil x0 fun c=>jn (fun l h=>e1 l fun x=>bs 0 0 3 [] h fun v h=>app 3 40 v x h fun v h=>K v h) fun k=>wB (AV.bool (false ^^ c)) (K (AV.fz Fz.nil 0 0 fun _ _=>AV.any) h) (k [x0] h)):=by kernel_rfl
mutual
def cpT:Tm→Tm
 |.mk o n _ l=>.mk o n .may (cpL l)
def cpL:List Tm→List Tm
 |[]=>[]
 |t::r=>cpT t::cpL r
end
theorem cpL_map:∀(l:List Tm),cpL l=l.map cpT
 |[]=>by rw[cpL];rfl
 |t::r=>by rw[cpL,cpL_map r];rfl
theorem cpT_eq (t:Tm):cpT t=.mk t.op t.n .may (t.kids.map cpT):=by cases t;rw[cpT,cpL_map];rfl
def okk (k:Fz)(l:List Tm):Prop:=(k=.nil∧l=[])∨k=.may∨k=.opn
theorem cells_cons {α:Type}{e:α→LA}{a:α}{l:List α}:cells e (a::l)=e a++cells e l:=rfl
theorem set_kid {v:AV}{t':Tm}:∀{L:List Tm} {i:Nat},i<L.length→cT t'=(cT (L.getD i default)).set 2 v→(cells cT L).set (i*3+2) v=cells cT (L.set i t')
 |[],_,h,_=>absurd h (by simp)
 |a::L,0,_,h=>by
  rw[cells_cons,List.set_append,if_pos (by rw[cT_len];omega)]
  show(cT a).set 2 v++_=cT t'++_
  rw[h];rfl
 |a::L,i+1,hi,h=>by
  rw[cells_cons,List.set_append,if_neg (by rw[cT_len];omega),cT_len,show(i+1)*3+2-3=i*3+2 by omega,set_kid (L:=L) (by simpa using hi) h]
  rfl
theorem kid_at {L:List Tm}{i:Nat}(hi:i<L.length):tb 3 (nx (dr (0+i*3) (cells cT L)))=cT (L.getD i default):=by
 refine nx_ext (by rw[tb_len,cT_len]) fun j hj=>?_
 rw[tb_len] at hj
 rw[tb_nx,if_pos hj,dr_nx,Nat.zero_add]
 exact cells_nx cT_len L i j hi hj
def CpT (h h':H)(v:AV)(l:List Tm):Prop:=Ex h h'∧((l=[]∧(v=.fz .nil 0 0 fun _ _=>.any))∨(l=[]∧∃o,v=.sl o 0 0 0 true 3∧gt h' o=.cells 0 [])∨(l≠[]∧∃o,v=.sl o 0 l.length l.length false 3∧h.n≤o∧o<h'.n∧gt h' o=.cells (l.length*3) (cells cT l)))
theorem c_CloneT {k:Fz}{l:List Tm}(hk:okk k l)(hl:l.length≤1000){h:H}{K:KVH}(kk:∀v h',CpT h h' v l→Ho (K v h')):Ho (((sem Tryz.prog).C 127).r [eTs k l] h K noP):=by
 have e1:Ex h (nw h (.cells 0 [])):=(Ex.refl h).nw
 have emp:l=[]→Ho (K (.sl h.n 0 0 0 true 3) (nw h (.cells 0 []))):=fun e=>kk _ _ ⟨e1,.inr (.inl ⟨e,_,rfl,gt_nw h _⟩)⟩
 have emn:l=[]→Ho (K (.fz .nil 0 0 fun _ _=>.any) h):=fun e=>kk _ _ ⟨Ex.refl h,.inl ⟨e,rfl⟩⟩
 have full:l≠[]→Ho (Bvm.app 3 40 (.sl h.n 0 0 0 true 3) (eTs k l) (nw h (.cells 0 [])) K):=fun e=>by
  have hlen:l.length≠0:=fun e'=>e (List.eq_nil_of_length_eq_zero e')
  refine app_e (Src.M cT_len (by omega) (fun e'=>?_)) hlen (gt_nw h _) (by omega) (by omega) (kk _ _ ⟨e1.nw,.inr (.inr ⟨e,h.n+1,rfl,Nat.le_succ _,Nat.lt_succ_self _,gt_nw (nw h (.cells 0 [])) _⟩)⟩)
  rcases hk with⟨_,h2⟩|h2|h2
  ·exact h2
  ·rw[h2] at e';cases e'
  ·rw[h2] at e';cases e'
 by_cases c:l=[]
 ·subst c
  rcases hk with⟨rfl,_⟩|rfl|rfl
  ·refine sem_fn prOk (by kernel_rfl) ?_
   rw[t_127]
   have e2:=fun F=>s_nlN (s:=3) (n:=0) (g:=fun i j=>nx ((([]:List Tm).map cT).getD i []) j) (F:=F)
   have e3:eTs .nil []=.fz .nil 3 0 fun i j=>nx ((([]:List Tm).map cT).getD i []) j:=rfl
   rw[e3]
   refine onc (And.intro e2 @Bool.false_xor) ?_
   exact emn rfl
  ·show Ho (((sem Tryz.prog).C 127).r [.fz .may 3 0 _] h K noP)
   refine sem_may fun p c=>?_
   refine sem_fn prOk (by kernel_rfl) ?_
   rw[t_127]
   cases p with
   |none=>
    refine onc (And.intro @s_nlV2 @Bool.false_xor) ?_
    exact emn rfl
   |some p=>
    refine onc (And.intro @s_nlV1 @Bool.false_xor) ?_
    rw[app_v0]
    exact emp rfl
  ·refine sem_fn prOk (by kernel_rfl) ?_
   rw[t_127]
   have e3:eTs .opn []=.fz .opn 3 0 fun i j=>nx ((([]:List Tm).map cT).getD i []) j:=rfl
   rw[e3]
   refine onc (And.intro @s_nlP @Bool.false_xor) ?_
   rw[app_f0 (.inl rfl)]
   exact emp rfl
 ·refine sem_fn prOk (by kernel_rfl) ?_
  rw[t_127]
  have hnl:∀F:Bool→Ans,isNil (eTs k l) F=F false:=fun F=>by
   rcases hk with⟨_,h2⟩|rfl|rfl
   ·exact absurd h2 c
   ·exact s_nlM fun e'=>c (List.eq_nil_of_length_eq_zero e')
   ·exact s_nlP
  refine onc (And.intro hnl @Bool.false_xor) ?_
  exact full c
def okT (t:Tm):Prop:=allN' (fun x=>okk x.k x.kids) t
theorem okT.kids {t:Tm}(h:okT t):okk t.k t.kids∧∀k,k∈t.kids→okT k:=allN'_eq.1 h
theorem fin_sl0 {P:Program}{h:H}{o n cap:Nat}{ex:Bool}{l:List Tm}(hn:n=l.length)(hc:n≤cap)(hg:gt h o=.cells (l.length*3) (cells cT l)):Fzs P h (.sl o 0 n cap ex 3) (eTs .may l):=fun ok=>by
 subst hn
 have ho:=(ok.cells (P:=P) hg).2
 refine(FzTo.sl (m:=0) ho (Nat.zero_le _) (by omega) hc (by omega) (fun q hq=>.below ?_)).le (le_opn_may fun q c h1 h2=>?_)
 ·have hd:q/3<l.length:=by omega
  have:=cells_nx cT_len l (q/3) (q%3) hd (by omega)
  rw[show q/3*3+q%3=q by omega] at this
  rw[this]
  exact cT_below _ _ (by omega)
 ·rw[Nat.zero_add,map_getD h1]
  exact cells_nx cT_len l q c h1 h2
theorem fin_cp {P:Program}{h h':H}{v:AV}{l:List Tm}(c:CpT h h' v l):Fzs P h' v (eTs .may l):=by
 rcases c.2 with⟨rfl,rfl⟩|⟨rfl,o,rfl,hg⟩|⟨_,o,rfl,_,_,hg⟩
 ·exact fun _=>(FzTo.below (v:=.fz .nil 0 0 fun _ _=>.any) trivial).le fun FM ρ w hw=>le_auto_may _ _ _ (Le.nil_auto _ _ _ hw)
 ·exact fin_sl0 rfl (Nat.le_refl _) (by rw[hg];rfl)
 ·exact fin_sl0 rfl (Nat.le_refl _) hg
theorem c_copiedL {k:Fz}{l:List Tm}(hk:okk k l)(hl:l.length≤1000)(ih:∀t,t∈l→Pu Tryz.prog 74 [eTs t.k t.kids] (eTs .may (t.kids.map cpT))):Pu Tryz.prog 74 [eTs k l] (eTs .may (l.map cpT)):=by
 refine Pu.of prOk (by kernel_rfl) ⟨trivial,trivial⟩ ?_
 rw[t_74]
 refine on ?_
 refine c_CloneT hk hl (fun v h1 hc=>?_)
 by_cases c:l=[]
 ·subst c
  have hz:∀K,len v K=K (.int .i64 0):=fun K=>by
   rcases hc.2 with⟨_,rfl⟩|⟨_,o,rfl,_⟩|⟨h,_⟩
   ·exact s_lenf
   ·exact s_lens
   ·exact absurd rfl h
  refine onc hz ?_
  refine lp_1 (lpN_1 ?_)
  refine on ?_
  exact ho_fin (fin_cp hc)
 rcases hc.2 with⟨h,_⟩|⟨h,_⟩|⟨_,o,rfl,ho1,ho2,hg⟩
 ·exact absurd h c
 ·exact absurd h c
 refine on ?_
 refine ho_lp (fun (i:Nat) y h=>(∃a b d,y=[a,.int .i64 i,.int .i64 l.length,.sl o 0 l.length l.length false 3,b,d,.sl o 0 l.length l.length false 3,.fz .nil 0 0 fun _ _=>.any])∧o<h.n∧i≤l.length∧gt h o=.cells (l.length*3) (cells cT ((l.take i).map cpT++l.drop i))) (fun i=>l.length-i) 0 ⟨⟨_,_,_,rfl⟩,ho2,Nat.zero_le _,hg⟩ (by omega) ?_
 rintro i y h L ⟨⟨a,b,d,rfl⟩,hn,hi,hg⟩ ih'
 refine on (ho_br (fun c1=>?_) (fun c1=>?_))
 ·have hi':i<l.length:=by omega
  have hlen:((l.take i).map cpT++l.drop i).length=l.length:=by simp;omega
  have hat:((l.take i).map cpT++l.drop i).getD i default=l.getD i default:=by
   rw[List.getD_eq_getElem?_getD,List.getElem?_append_right (by simp;omega),List.length_map,List.length_take,Nat.min_eq_left (by omega),Nat.sub_self,List.getD_eq_getElem?_getD,List.getElem?_drop,Nat.add_zero]
  have hka:=kid_at (L:=(l.take i).map cpT++l.drop i) (i:=i) (by omega)
  rw[hat,Nat.zero_add] at hka
  refine onc (And.intro hg <| And.intro hka <| And.intro @cT_spl sT) ?_
  have hmem:l.getD i default∈l:=getD_mem hi'
  refine(ih _ hmem).call ?_
  have hsp:spl (i*3+2) [eTs .may ((l.getD i default).kids.map cpT)] (cells cT ((l.take i).map cpT++l.drop i))=cells cT ((l.take (i+1)).map cpT++l.drop (i+1)):=by
   rw[spl1_set (by rw[cells_len cT_len];omega),set_kid (t':=cpT (l.getD i default)) (by omega) (by rw[hat,cpT_eq,cT_eq,cT_eq];rfl)]
   congr 1
   rw[take_snoc hi',List.map_append,drop_cons hi',List.set_append,if_neg (by simp;omega),List.length_map,List.length_take,Nat.min_eq_left (by omega),Nat.sub_self,List.append_assoc]
   rfl
  refine onc (And.intro hg <| And.intro hsp <| And.intro @Int.toNat_natCast sT) ?_
  exact ih' (i+1) _ _ ⟨⟨_,_,_,rfl⟩,by show o<h.n+1;omega,by omega,gt_st _ _ _⟩ (by omega)
 ·have hi':i=l.length:=by omega
  subst hi'
  rw[List.take_length,List.drop_length,List.append_nil] at hg
  refine on ?_
  exact ho_fin (fin_sl0 (by simp) (Nat.le_refl _) (by rw[List.length_map];exact hg))
theorem c_copiedT (t:Tm):FewB 1000 t→okT t→Pu Tryz.prog 74 [eTs t.k t.kids] (eTs .may (t.kids.map cpT)):=by
 have key:∀(t:Tm) (B:Int),FewB B t→B≤1000→okT t→Pu Tryz.prog 74 [eTs t.k t.kids] (eTs .may (t.kids.map cpT)):=by
  intro t
  induction t using Tm.rec' with
  |h t ih=>
   intro B hf hB ho
   obtain⟨h1,h2,h3⟩:=hf.kids
   obtain⟨h4,h5⟩:=ho.kids
   exact c_copiedL h4 (by omega) fun k hk=>ih k hk (B-1) (h3 k hk) (by omega) (h5 k hk)
 exact fun hf ho=>key t 1000 hf (by omega) ho
theorem c_copied {k:Fz}{l:List Tm}(hk:okk k l)(hl:l.length≤1000)(hf:∀t,t∈l→Few t)(ho:∀t,t∈l→okT t):Pu Tryz.prog 74 [eTs k l] (eTs .may (l.map cpT)):=
 c_copiedL hk hl fun t ht=>c_copiedT t (hf t ht).B (ho t ht)
end
end Go.Proofs.YtgmjpmeddajmgaaGreat
namespace Go.Proofs.YtgmjpmeddajmgaaGreat
open Go Go.Avm Go.Bvm
set_option maxRecDepth 100000
set_option linter.unusedVariables false
set_option linter.unusedSimpArgs false
set_option linter.defProp false
noncomputable section
attribute [local irreducible] jn jv br lp ck iff wB wG wRef wSl wCl wAg wTu wStr wFn wIfc wInt wCe wRe wMp wFr ad sb ml lt le eqi nei eq1 isNil un cvt fa len lens ix ixA ixS ixV ld1 ldn sto al bx pt bs ms app cpy sli lkm mup men mst mrg srg snx mnx mtr tas lenm rgT rgE finR mfind mset mput wKey wMa sV sem fin Ho
theorem t_25 (t:Tb)(h:H)(K Pn:KVH)(x0 x1 x2:AV):(compF Tryz.prog (drawsC Tryz.prog) 25).r t [x0,x1,x2] h K Pn=ck true (bx x0 h fun v h=>ldn 3 h v fun v_1=>(t.C 73).r [v_1] h (fun v_2 h=>un v_2 fun v_3=>jv (fun v_4 h=>jv (fun v_5 h=>jv (fun v_6 h=>jv (fun v_7 h=>jv (fun v_8 h=>jv (fun v_9 h=>jv (fun v_10 h=>jv (fun v_11 h=>jv (fun v_12 h=>jv (fun v_13 h=>jv (fun v_14 h=>jv (fun v_15 h=>jv (fun v_16 h=>jv (fun v_17 h=>jv (fun v_18 h=>jv (fun v_19 h=>jv (fun v_20 h=>jv (fun v_21 h=>jv (fun v_22 h=>jv (fun v_23 h=>jv (fun v_24 h=>jn (fun l h=>e10 l fun x x_1 x_2 x_3 x_4 x_5 x_6 x_7 x_8 x_9=>fa 2 x_7 fun v=>ld1 h v fun v=>ix 6 v x_9 fun v=>ldn 6 h v fun v=>(t.C 72).r [v,x_8] h (fun v h=>wTu v fun n g=>ck (Nat.ble 1 n) (wTu v fun n g_1=>ck (Nat.ble 2 n) (un (g_1 1) fun v=>jn (fun l h=>e8 l fun x x_10 x_11 x_12 x_13 x_14 x_15 x_16=>jn (fun l h=>e1 l fun x=>K (AV.tup 2 (nx [x,mkI 0])) h) fun k=>lp (fun L l h=>e10 l fun x x_17 x_18 x_19 x_20 x_21 x_22 x_23 x_24 x_25=>lt x_18 (mkI 20) fun v=>jn (fun l h=>e6 l fun x x_26 x_27 x_28 x_29 x_30=>jn (fun l h=>e10 l fun x x_31 x_32 x_33 x_34 x_35 x_36 x_37 x_38 x_39=>ad x_32 (mkI 1) fun v=>L [x,x_31,v,x_33,x_34,x_35,x_36,x_37,x_38,x_39] h) fun k=>lkm 3 (keyC Tryz.prog 3) (AV.agg 3 (nx [mkI 0,mkI 0,AV.fz Fz.nil 0 0 fun _ _=>AV.any])) true x_28 x_26 h fun v=>wTu v fun n g=>ck (Nat.ble 1 n) (wTu v fun n g_2=>ck (Nat.ble 2 n) (al 3 [mkI 0,mkI 0,AV.fz Fz.nil 0 0 fun _ _=>AV.any] h fun v h=>sto 3 h v (g 0) fun h=>jn k fun k=>wB (g_2 1) (ldn 3 h v fun v_25=>pt 0 3 v_25 [mkI 0,mkI 0,AV.fz Fz.nil 0 0 fun _ _=>AV.any] fun cs=>bs 1 3 3 cs h fun v_26 h=>(t.C 74).r [v_26] h (fun v_27 h=>ix 3 v_27 (mkI 0) fun v_28=>ldn 3 h v_28 fun v_29=>pt 0 1 x_26 [mkI 0,mkI 0,mkI 0,AV.fz Fz.nil 0 0 fun _ _=>AV.any] fun cs=>pt 1 3 v_29 cs fun cs=>pt 0 4 (AV.agg 4 (nx cs)) [mkI 0,mkI 0,mkI 0,AV.fz Fz.nil 0 0 fun _ _=>AV.any] fun cs=>bs 1 4 4 cs h fun v_30 h=>app 4 48 x_27 v_30 h fun v_31 h=>k [g_2 1,x,x_26,g_2 1,v,x_26,v_31,x_28,x_29,x_30] h) Pn) (k [g_2 1,x,x_26,g_2 1,v,x_26,x_27,x_28,x_29,x_30] h)))) fun k_1=>wB v (k_1 [v,x_18,x_22,x_23,x_24,x_25] h) (k [x_22] h)) [x,x_10,mkI 0,x_11,x_12,x_13,AV.fz Fz.nil 0 0 fun _ _=>AV.any,x_14,x_15,x_16] h) fun k=>wB v (K (AV.tup 2 (nx [AV.fz Fz.nil 0 0 fun _ _=>AV.any,mkI 5])) h) (k [x,x_1,x_2,x_3,x_4,g 0,x_5,x_6] h)))) Pn) fun k=>wB v_24 (K (AV.tup 2 (nx [AV.fz Fz.nil 0 0 fun _ _=>AV.any,mkI 2])) h) (k [AV.any,AV.any,AV.any,AV.any,AV.any,mkI 0,AV.fz Fz.nil 0 0 fun _ _=>AV.any,v,x2,x1] h)) fun k=>wB v_12 (k (AV.bool true) h) (k v_23 h)) fun k=>wG false v_12 (un v_22 fun v=>k v h) (k skipV h)) fun k=>wG false v_12 ((t.C 69).r [v_21,v_19,v_13] h k Pn) (k skipV h)) fun k=>wG false v_12 (ldn 2 h v_20 fun v=>k v h) (k skipV h)) fun k=>wG false v_12 (fa 0 v fun v=>k v h) (k skipV h)) fun k=>wG false v_12 (ld1 h v_18 fun v=>k v h) (k skipV h)) fun k=>wG false v_12 (fa 0 v_17 fun v=>k v h) (k skipV h)) fun k=>wG false v_12 (ix 6 v_16 v_14 fun v=>k v h) (k skipV h)) fun k=>wG false v_12 (ld1 h v_15 fun v=>k v h) (k skipV h)) fun k=>wG false v_12 (fa 2 v fun v=>k v h) (k skipV h)) fun k=>wG false v_12 (k x1 h) (k skipV h)) fun k=>wG false v_12 (k x2 h) (k skipV h)) fun k=>wB v_6 (k (AV.bool true) h) (k v_11 h)) fun k=>wG false v_6 (le v_9 v_10 fun v=>k v h) (k skipV h)) fun k=>wG false v_6 (k x1 h) (k skipV h)) fun k=>wG false v_6 (len v_8 fun v=>k v h) (k skipV h)) fun k=>wG false v_6 (ld1 h v_7 fun v=>k v h) (k skipV h)) fun k=>wG false v_6 (fa 2 v fun v=>k v h) (k skipV h)) fun k=>wB v_3 (k (AV.bool true) h) (k v_5 h)) fun k=>wG false v_3 (lt v_4 (mkI 0) fun v=>k v h) (k skipV h)) fun k=>wG false v_3 (k x1 h) (k skipV h)) Pn):=by kernel_rfl
theorem appT_sub {Q:Tm→Prop}(hd:Q default)(hk:∀t,Q t→∀k,k∈t.kids→Q k)(p:Tm):∀(v:Tm) (s:TB),Q v→(∀j,Q (s.2 j))→∀j,Q ((appT p v s).1.2 j):=by
 induction p using Tm.rec' with
 |h p ih=>
 intro v s hv hs
 rw[appT_eq]
 by_cases c:p.op=1
 ·rw[if_pos c]
  intro j
  show Q (if j=p.n then v else s.2 j)
  split
  ·exact hv
  ·exact hs j
 rw[if_neg c]
 by_cases c1:p.op≠v.op∨p.n≠v.n
 ·rw[if_pos c1]
  exact hs
 rw[if_neg c1]
 have key:∀(ps vs:List Tm) (s:TB),(∀x,x∈ps→x∈p.kids)→(∀x,x∈vs→Q x)→(∀j,Q (s.2 j))→∀j,Q ((appL ps vs s).1.2 j):=by
  intro ps
  induction ps with
  |nil=>intro vs s _ _ hs;rw[appL_nil];exact hs
  |cons a ps ih2=>
   intro vs s h1 h2 hs
   have hh:Q (vs.headD default):=by
    cases vs with
    |nil=>exact hd
    |cons b vs=>exact h2 _ (List.mem_cons_self ..)
   have ht:∀x,x∈vs.tail→Q x:=fun x hx=>h2 x (List.mem_of_mem_tail hx)
   have:=ih a (h1 a (List.mem_cons_self ..)) (vs.headD default) s hh hs
   rw[appL]
   split
   ·exact ih2 _ _ (fun x hx=>h1 x (List.mem_cons_of_mem _ hx)) ht this
   ·exact this
 exact key p.kids v.kids s (fun _ h=>h) (hk v hv) hs
theorem appL_sub {Q:Tm→Prop}(hd:Q default)(hk:∀t,Q t→∀k,k∈t.kids→Q k):∀(ps vs:List Tm) (s:TB),(∀x,x∈vs→Q x)→(∀j,Q (s.2 j))→∀j,Q ((appL ps vs s).1.2 j)
 |[],vs,s,_,hs=>by rw[appL_nil];exact hs
 |a::ps,vs,s,h2,hs=>by
  have hh:Q (vs.headD default):=by
   cases vs with
   |nil=>exact hd
   |cons b vs=>exact h2 _ (List.mem_cons_self ..)
  have ht:∀x,x∈vs.tail→Q x:=fun x hx=>h2 x (List.mem_of_mem_tail hx)
  have:=appT_sub hd hk a (vs.headD default) s hh hs
  rw[appL]
  split
  ·exact appL_sub hd hk ps _ _ ht this
  ·exact this
def cB (b:Int × Tm):LA:=.int .i64 b.1::cT b.2
theorem cB_len (b:Int × Tm):(cB b).length=4:=by rw[cB,List.length_cons,cT_len]
theorem cB_below (b:Int × Tm):∀j,j<4→Below 0 (nx (cB b) j)
 |0,_=>trivial
 |j+1,hj=>cT_below b.2 j (by omega)
def bU (s:TB)(i:Nat):List (Int × Tm):=((List.range i).filter fun j:Nat=>decide ((j:Int)∈s.1)).map fun j:Nat=>((j:Int),cpT (s.2 j))
theorem bU_step (s:TB)(i:Nat):bU s (i+1)=if (i:Int)∈s.1 then bU s i++[((i:Int),cpT (s.2 i))] else bU s i:=by
 unfold bU
 rw[List.range_succ,List.filter_append,List.map_append]
 by_cases c:(i:Int)∈s.1
 ·rw[if_pos c,List.filter_cons,if_pos (decide_eq_true c)];rfl
 ·rw[if_neg c,List.filter_cons,if_neg (by rw[decide_eq_false c];decide)];exact List.append_nil _
theorem bU_len (s:TB):∀i:Nat,(bU s i).length≤i
 |0=>by show 0≤0;omega
 |i+1=>by
  have:=bU_len s i
  rw[bU_step]
  split
  ·rw[List.length_append];show _+1≤_;omega
  ·omega
def eB (l:List (Int × Tm)):AV:=fzM .auto 4 cB l
def pairB (l:List (Int × Tm))(e:Int):AV:=.tup 2 (nx [eB l,.int .i64 e])
def apT (p:Pg)(n:Int)(l:List Tm):TB × Bool:=appL (p.rules.getD n.toNat default).pats l t0
def apOk (p:Pg)(n:Int)(l:List Tm):Prop:=progP p∧0≤n∧n<p.rules.length∧valuesP p.sig (p.rules.getD n.toNat default).fn l
instance (p:Pg)(n:Int)(l:List Tm):Decidable (apOk p n l):=Classical.propDecidable _
def apB (p:Pg)(n:Int)(l:List Tm):AV:=if apOk p n l then if (apT p n l).2=true then pairB (bU (apT p n l).1 20) 0 else pairB [] 5 else pairB [] 2
theorem few_dflt:Few default∧okT default:=⟨⟨1000,1,by omega,by decide⟩,(allN'_eq (Q:=fun x:Tm=>okk x.k x.kids)).2 ⟨.inl ⟨rfl,rfl⟩,fun k hk=>by cases hk⟩⟩
theorem c_Apply (p:Pg)(n:Int)(k:Fz)(l:List Tm)(hp:smallP p)(hl:smallTs l)(ho:∀t,t∈l→okT t):Pu Tryz.prog 25 [eP p,.int .i64 n,eTs k l] (apB p n l):=by
 refine Pu.of prOk (by kernel_rfl) ⟨eP_below _,trivial,trivial,trivial⟩ ?_
 rw[t_25]
 have hp1:=hp.f1
 have hl6:=hl.f1
 have bad:∀e h,Ho (fin Tryz.prog (pairB [] e) (.tup 2 (nx [.fz .nil 0 0 fun _ _=>.any,.int .i64 e])) h):=fun e h=>ho_fin (Fzs.tup fun j hj=>match j,hj with|0,_=>fun _=>(FzTo.below (v:=.fz .nil 0 0 fun _ _=>.any) trivial).le (fun FM ρ w hw=>Le.nil_auto _ _ _ hw)|1,_=>Fzs.of trivial)
 generalize hR:apB p n l=R
 refine onc sP ?_
 refine(c_progP p hp).call ?_
 by_cases c0:progP p
 case neg=>
  rw[decide_eq_false c0]
  refine onc sP ?_
  rw[←hR,apB,if_neg fun e=>c0 e.1]
  exact bad _ _
 rw[decide_eq_true c0]
 refine onc sP ?_
 by_cases c1:n<0
 ·refine onc (And.intro c1 sP) ?_
  rw[←hR,apB,if_neg fun e=>by have:=e.2.1;omega]
  exact bad _ _
 by_cases c2:(p.rules.length:Int)≤n
 ·refine onc (And.intro c1 <| And.intro c2 sP) ?_
  rw[←hR,apB,if_neg fun e=>by have:=e.2.2.1;omega]
  exact bad _ _
 have hmem:p.rules.getD n.toNat default∈p.rules:=getD_mem (by omega)
 have hRu:=c0.f3 _ hmem
 have hS:=hp.f2 _ hmem
 refine onc (And.intro c1 <| And.intro c2 sP) ?_
 refine(c_values p.sig _ k l hp.f3 c0.f2 hRu.f1 hRu.f2 hl).le (LeL.cons (le_sig p) LeL.same2) ?_
 by_cases c3:valuesP p.sig (p.rules.getD n.toNat default).fn l
 case neg=>
  rw[decide_eq_false c3]
  refine onc sP ?_
  rw[←hR,apB,if_neg fun e=>c3 e.2.2.2]
  exact bad _ _
 rw[decide_eq_true c3]
 have cOk:apOk p n l:=⟨c0,by omega,by omega,c3⟩
 refine onc (And.intro c1 <| And.intro c2 sP) ?_
 have hlen:(p.rules.getD n.toNat default).pats.length=l.length:=by
  have h1:=hRu.f3
  have h2:=c3.f1
  omega
 have hQ:∀j,Few ((apT p n l).1.2 j)∧okT ((apT p n l).1.2 j):=appL_sub (Q:=fun t=>Few t∧okT t) few_dflt (fun t ht k hk=>⟨ht.1.kids.2 k hk,ht.2.kids.2 k hk⟩) _ _ _ (fun x hx=>⟨(hl.f2 x hx).few,ho x hx⟩) (fun _=>few_dflt)
 refine c_applied (s:=p.sig) _ k l hlen (by omega) (fun t ht=>(hS.f1.f2 t ht).few) (pat_hyp hRu.f6) (fun t ht=>(c3.f2 t ht).1.f2) (fun hb h1 m ex1 hm1 hm2 hnd hg=>?_) (fun hb h1 ex1=>?_)
 ·refine on ?_
  have hR':pairB (bU (apT p n l).1 20) 0=R:=by rw[←hR,apB,if_pos cOk];exact(if_pos hb).symm
  change gt h1 m=tMap (apT p n l).1 at hg
  generalize (apT p n l).1=s1 at hQ hg hR'
  refine ho_lp (fun (i:Nat) y h=>(∃a b c d e out x z,y=[a,b,.int .i64 i,c,d,e,out,.mp m,x,z]∧Gr true (m+1) h out 4 (cells cB (bU s1 i)) (bU s1 i).length)∧m<h.n∧i≤20∧gt h m=tMap s1) (fun i=>20-i) 0 ⟨⟨_,_,_,_,_,_,_,_,rfl,.nil⟩,hm2,Nat.zero_le _,hg⟩ (by omega) ?_
  rintro i y h L ⟨⟨a,b,c,d,e,out,x,z,rfl,g⟩,hn,hi,hg'⟩ ih
  have hlen:=bU_len s1 i
  refine on (ho_br (fun c4=>?_) (fun c4=>?_))
  ·have hlk:∀z K,lkm 3 (keyC Tryz.prog 3) z true (.mp m) (.int .i64 i) h K=if (i:Int)∈s1.1 then K (tup2 (eT (s1.2 i)) (.bool true)) else K (tup2 z (.bool false)):=fun _ _=>s_lkm2 (kv:=kI) (val:=fun n=>eT (s1.2 n)) (k:=(i:Int)) isKeyI (keyI (keyI_ok (by omega) (by omega))) hg'
   by_cases c5:(i:Int)∈s1.1
   ·have hlk1:∀z K,lkm 3 (keyC Tryz.prog 3) z true (.mp m) (.int .i64 i) h K=K (tup2 (eT (s1.2 i)) (.bool true)):=fun _ _=>(hlk _ _).trans (if_pos c5)
    refine onc (And.intro hlk1 <| And.intro @s_tup2 <| And.intro @cT_spl sT) ?_
    have ec:Ex h (st (nw (st (nw h (.cells 3 [.int .i64 0,.int .i64 0,.fz .nil 0 0 fun _ _=>.any])) h.n (.cells 3 (cT (s1.2 i)))) (.cells 3 (cT (s1.2 i)))) (h.n+1) (.fce 3 (cT (s1.2 i)))):=((Ex.refl h).nw.st (Nat.le_refl _)).nw.st (Nat.le_succ _)
    have g':=g.keep ec.n fun o _ ho=>ec.k o ho
    have hm':=(ec.k m hn).trans hg'
    have hn':=Nat.lt_of_lt_of_le hn ec.n
    have e1:bU s1 (i+1)=bU s1 i++[((i:Int),cpT (s1.2 i))]:=(bU_step s1 i).trans (if_pos c5)
    refine(c_copied (k:=.opn) (l:=[s1.2 i]) (.inr (.inr rfl)) (by show 1≤1000;omega) (fun t ht=>by rw[List.mem_singleton.1 ht];exact(hQ _).1) (fun t ht=>by rw[List.mem_singleton.1 ht];exact(hQ _).2)).callZ (.cons (frz_T1 (gt_nw _ _)) .nil) (LeL.cons le_T1 LeL.nil) (fz_T11 (gt_nw _ _)) ?_
    rw[show [s1.2 i].map cpT=[cpT (s1.2 i)] from rfl]
    have hix:∀K,ix 3 (eTs .may [cpT (s1.2 i)]) (.int .i64 0) K=K (.fp 3 (nx (cT (cpT (s1.2 i))))):=fun _=>s_ixM (es:=3) (k:=.may) (e:=cT) (ls:=[cpT (s1.2 i)]) (by omega) (by show(0:Int)<1;omega)
    have hcb:spl 0 (tb 4 (nx (spl 1 (cT (cpT (s1.2 i))) [.int .i64 i,.int .i64 0,.int .i64 0,.fz .nil 0 0 fun _ _=>.any]))) [.int .i64 0,.int .i64 0,.int .i64 0,.fz .nil 0 0 fun _ _=>.any]=cB ((i:Int),cpT (s1.2 i)):=by rw[cB,cT_eq];rfl
    generalize st (nw (st (nw h (.cells 3 [.int .i64 0,.int .i64 0,.fz .nil 0 0 fun _ _=>.any])) h.n (.cells 3 (cT (s1.2 i)))) (.cells 3 (cT (s1.2 i)))) (h.n+1) (.fce 3 (cT (s1.2 i)))=h3 at ec g' hm' hn' ⊢
    refine onc (And.intro hix <| And.intro hcb sT) ?_
    refine g'.app1 (cB_len _) (by omega) (by omega) hn' (fun v' h' g2 hn2 hq2=>?_)
    refine ih (i+1) _ _ ⟨⟨_,_,_,_,_,_,_,_,rfl,?_⟩,Nat.lt_of_lt_of_le hn' hn2,by omega,(hq2 m (Nat.lt_succ_self _)).trans hm'⟩ (by omega)
    rw[e1,←cells_app,List.length_append,show cells cB [((i:Int),cpT (s1.2 i))]=cB ((i:Int),cpT (s1.2 i)) from List.append_nil _]
    exact g2
   ·have hlk1:∀z K,lkm 3 (keyC Tryz.prog 3) z true (.mp m) (.int .i64 i) h K=K (tup2 z (.bool false)):=fun _ _=>(hlk _ _).trans (if_neg c5)
    refine onc (And.intro hlk1 <| And.intro @s_tup2 <| And.intro @cT_spl sT) ?_
    have e1:bU s1 (i+1)=bU s1 i:=(bU_step s1 i).trans (if_neg c5)
    have ec:Ex h (st (nw h (.cells 3 [.int .i64 0,.int .i64 0,.fz .nil 0 0 fun _ _=>.any])) h.n (.cells 3 (spl 0 (tb 3 (nx [.int .i64 0,.int .i64 0,.fz .nil 0 0 fun _ _=>.any])) [.int .i64 0,.int .i64 0,.fz .nil 0 0 fun _ _=>.any]))):=(Ex.refl h).nw.st (Nat.le_refl _)
    exact ih (i+1) _ _ ⟨⟨_,_,_,_,_,_,_,_,rfl,by rw[e1];exact g.keep ec.n fun o _ ho=>ec.k o ho⟩,Nat.lt_of_lt_of_le hn ec.n,by omega,(ec.k m hn).trans hg'⟩ (by omega)
  ·have hi':i=20:=by omega
   subst hi'
   refine on ?_
   rw[←hR']
   exact ho_fin (Fzs.tup fun j hj=>match j,hj with|0,_=>g.fz rfl rfl cB_len (by omega) (fun b _ j hj=>cB_below b j hj)|1,_=>Fzs.of trivial)
 ·refine on ?_
  rw[←hR,apB,if_pos cOk,if_neg (by rw[show(apT p n l).2=false from hb];decide)]
  exact bad _ _
end
end Go.Proofs.YtgmjpmeddajmgaaGreat
namespace Go.Proofs.YtgmjpmeddajmgaaGreat
open Go Go.Avm Go.Bvm
set_option maxRecDepth 100000
set_option linter.unusedVariables false
set_option linter.unusedSimpArgs false
set_option linter.defProp false
noncomputable section
attribute [local irreducible] jn jv br lp ck iff wB wG wRef wSl wCl wAg wTu wStr wFn wIfc wInt wCe wRe wMp wFr ad sb ml lt le eqi nei eq1 isNil un cvt fa len lens ix ixA ixS ixV ld1 ldn sto al bx pt bs ms app cpy sli lkm mup men mst mrg srg snx mnx mtr tas lenm rgT rgE finR mfind mset mput wKey wMa sV sem fin Ho
theorem t_76 (t:Tb)(h:H)(K Pn:KVH)(x0:AV):(compF Tryz.prog (drawsC Tryz.prog) 76).r t [x0] h K Pn=ck true (bx x0 h fun v h=>jn (fun l h=>e1 l fun x=>fa 0 x fun v=>ld1 h v fun v=>le (mkI 1) v fun v=>jv (fun v_1 h=>jv (fun v_2 h=>jv (fun v_3 h=>jv (fun v h=>jv (fun v_4 h=>jv (fun v_5 h=>jv (fun v_6 h=>jv K fun k=>wB v (k (AV.bool true) h) (k v_6 h)) fun k=>wG false v (eqi v_5 (mkI 5) fun v=>k v h) (k skipV h)) fun k=>wG false v (ld1 h v_4 fun v=>k v h) (k skipV h)) fun k=>wG false v (fa 0 x fun v=>k v h) (k skipV h)) fun k=>wB v (k v_3 h) (k (AV.bool false) h)) fun k=>wG true v (le v_2 (mkI 3) fun v=>k v h) (k skipV h)) fun k=>wG true v (ld1 h v_1 fun v=>k v h) (k skipV h)) fun k=>wG true v (fa 0 x fun v=>k v h) (k skipV h)) fun k=>lp (fun L l h=>e5 l fun x x_1 x_2 x_3 x_4=>fa 2 x_4 fun v=>ld1 h v fun v=>len v fun v=>lt x_2 v fun v=>jn (fun l h=>e4 l fun x x_5 x_6 x_7=>jn (fun l h=>e5 l fun x x_8 x_9 x_10 x_11=>ad x_9 (mkI 1) fun v=>L [x,x_8,v,x_10,x_11] h) fun k=>fa 2 x_7 fun v=>ld1 h v fun v=>ix 3 v x_5 fun v=>ldn 3 h v fun v=>(t.C 76).r [v] h (fun v h=>un v fun v=>jn k fun k=>wB v (K (AV.bool false) h) (k [v,x,x_5,x_6,x_7] h)) Pn) fun k_1=>wB v (k_1 [v,x_2,x_3,x_4] h) (k [x_4] h)) [AV.any,AV.any,mkI 0,AV.bool false,v] h):=by kernel_rfl
theorem t_41 (t:Tb)(h:H)(K Pn:KVH)(x0 x1:AV):(compF Tryz.prog (drawsC Tryz.prog) 41).r t [x0,x1] h K Pn=ck true (bx x0 h fun v h=>bx x1 h fun v_1 h=>fa 0 v fun v_2=>ld1 h v_2 fun v_3=>fa 0 v_1 fun v_4=>ld1 h v_4 fun v_5=>nei v_3 v_5 fun v_6=>jv (fun v_7 h=>jv (fun v_8 h=>jv (fun v_9 h=>jv (fun v_10 h=>jv (fun v_11 h=>jv (fun v_12 h=>jv (fun v_13 h=>jv (fun v_14 h=>jv (fun v_15 h=>jv (fun v_16 h=>jv (fun v_17 h=>jv (fun v_18 h=>jv (fun v_19 h=>jv (fun v_20 h=>jn (fun l h=>e5 l fun x x_1 x_2 x_3 x_4=>jn (fun l h=>K (AV.bool true) h) fun k=>lp (fun L l h=>e6 l fun x x_5 x_6 x_7 x_8 x_9=>fa 2 x_9 fun v=>ld1 h v fun v=>len v fun v=>lt x_6 v fun v=>jn (fun l h=>e5 l fun x x_10 x_11 x_12 x_13=>jn (fun l h=>e6 l fun x x_14 x_15 x_16 x_17 x_18=>ad x_15 (mkI 1) fun v=>L [x,x_14,v,x_16,x_17,x_18] h) fun k=>fa 2 x_12 fun v=>ld1 h v fun v=>ix 3 v x_10 fun v=>ldn 3 h v fun v=>fa 2 x_13 fun v_21=>ld1 h v_21 fun v_22=>ix 3 v_22 x_10 fun v_23=>ldn 3 h v_23 fun v_24=>(t.C 41).r [v_24,v] h (fun v h=>un v fun v=>jn k fun k=>wB v (K (AV.bool false) h) (k [v,x,x_10,x_11,x_12,x_13] h)) Pn) fun k_1=>wB v (k_1 [v,x_6,x_7,x_8,x_9] h) (k [] h)) [x,x_1,mkI 0,x_2,x_3,x_4] h) fun k=>wB v_20 (K (AV.bool false) h) (k [AV.any,AV.any,AV.bool false,v_1,v] h)) fun k=>wB v_12 (k (AV.bool true) h) (k v_19 h)) fun k=>wG false v_12 (nei v_15 v_18 fun v=>k v h) (k skipV h)) fun k=>wG false v_12 (len v_17 fun v=>k v h) (k skipV h)) fun k=>wG false v_12 (ld1 h v_16 fun v=>k v h) (k skipV h)) fun k=>wG false v_12 (fa 2 v_1 fun v=>k v h) (k skipV h)) fun k=>wG false v_12 (len v_14 fun v=>k v h) (k skipV h)) fun k=>wG false v_12 (ld1 h v_13 fun v=>k v h) (k skipV h)) fun k=>wG false v_12 (fa 2 v fun v=>k v h) (k skipV h)) fun k=>wB v_6 (k (AV.bool true) h) (k v_11 h)) fun k=>wG false v_6 (nei v_8 v_10 fun v=>k v h) (k skipV h)) fun k=>wG false v_6 (ld1 h v_9 fun v=>k v h) (k skipV h)) fun k=>wG false v_6 (fa 1 v_1 fun v=>k v h) (k skipV h)) fun k=>wG false v_6 (ld1 h v_7 fun v=>k v h) (k skipV h)) fun k=>wG false v_6 (fa 1 v fun v=>k v h) (k skipV h)):=by kernel_rfl
theorem t_177 (t:Tb)(h:H)(K Pn:KVH)(x0 x1:AV):(compF Tryz.prog (drawsC Tryz.prog) 177).r t [x0,x1] h K Pn=ck true (bx x0 h fun v h=>bx x1 h fun v_1 h=>fa 0 v fun v_2=>ld1 h v_2 fun v_3=>eqi v_3 (mkI 1) fun v_4=>jn (fun l h=>e5 l fun x x_1 x_2 x_3 x_4=>fa 0 x_4 fun v=>ld1 h v fun v=>fa 0 x_3 fun v_5=>ld1 h v_5 fun v_6=>nei v v_6 fun v=>jv (fun v_7 h=>jv (fun v_8 h=>jv (fun v_9 h=>jv (fun v_10 h=>jv (fun v_11 h=>jv (fun v h=>jv (fun v_12 h=>jv (fun v_13 h=>jv (fun v_14 h=>jv (fun v_15 h=>jv (fun v_16 h=>jv (fun v_17 h=>jv (fun v_18 h=>jv (fun v h=>jn (fun l h=>e5 l fun x x_5 x_6 x_7 x_8=>jn (fun l h=>K (AV.bool true) h) fun k=>lp (fun L l h=>e6 l fun x x_9 x_10 x_11 x_12 x_13=>fa 2 x_13 fun v=>ld1 h v fun v=>len v fun v=>lt x_10 v fun v=>jn (fun l h=>e5 l fun x x_14 x_15 x_16 x_17=>jn (fun l h=>e6 l fun x x_18 x_19 x_20 x_21 x_22=>ad x_19 (mkI 1) fun v=>L [x,x_18,v,x_20,x_21,x_22] h) fun k=>fa 2 x_16 fun v=>ld1 h v fun v=>ix 3 v x_14 fun v=>ldn 3 h v fun v=>fa 2 x_17 fun v_19=>ld1 h v_19 fun v_20=>ix 3 v_20 x_14 fun v_21=>ldn 3 h v_21 fun v_22=>(t.C 177).r [v_22,v] h (fun v h=>un v fun v=>jn k fun k=>wB v (K (AV.bool false) h) (k [v,x,x_14,x_15,x_16,x_17] h)) Pn) fun k_1=>wB v (k_1 [v,x_10,x_11,x_12,x_13] h) (k [] h)) [x,x_5,mkI 0,x_6,x_7,x_8] h) fun k=>wB v (K (AV.bool false) h) (k [x,x_1,x_2,x_3,x_4] h)) fun k=>wB v (k (AV.bool true) h) (k v_18 h)) fun k=>wG false v (nei v_14 v_17 fun v=>k v h) (k skipV h)) fun k=>wG false v (len v_16 fun v=>k v h) (k skipV h)) fun k=>wG false v (ld1 h v_15 fun v=>k v h) (k skipV h)) fun k=>wG false v (fa 2 x_3 fun v=>k v h) (k skipV h)) fun k=>wG false v (len v_13 fun v=>k v h) (k skipV h)) fun k=>wG false v (ld1 h v_12 fun v=>k v h) (k skipV h)) fun k=>wG false v (fa 2 x_4 fun v=>k v h) (k skipV h)) fun k=>wB v (k (AV.bool true) h) (k v_11 h)) fun k=>wG false v (nei v_8 v_10 fun v=>k v h) (k skipV h)) fun k=>wG false v (ld1 h v_9 fun v=>k v h) (k skipV h)) fun k=>wG false v (fa 1 x_3 fun v=>k v h) (k skipV h)) fun k=>wG false v (ld1 h v_7 fun v=>k v h) (k skipV h)) fun k=>wG false v (fa 1 x_4 fun v=>k v h) (k skipV h)) fun k=>wB v_4 (K (AV.bool true) h) (k [AV.any,AV.any,AV.bool false,v_1,v] h)):=by kernel_rfl
mutual
def vaB:Tm→Bool
 |.mk o _ _ l=>vasB l&&(decide (1≤o∧o≤3)||decide (o=5))
def vasB:List Tm→Bool
 |[]=>true
 |t::r=>vaB t&&vasB r
end
theorem vaB_eq (t:Tm):vaB t=(vasB t.kids&&(decide (1≤t.op∧t.op≤3)||decide (t.op=5))):=by cases t;rw[vaB];rfl
theorem vasB_all:∀(l:List Tm),vasB l=l.all vaB
 |[]=>by rw[vasB];rfl
 |t::r=>by rw[vasB,vasB_all r];rfl
theorem c_Value (t:Tm):Few t→Pu Tryz.prog 76 [eT t] (.bool (decide (vaB t=true))):=by
 induction t using Tm.rec' with
 |h t ih=>
 intro hw
 have hk:=hw.kids
 have h1:=hk.1
 refine Pu.of prOk (by kernel_rfl) ⟨eT_below _,trivial⟩ ?_
 rw[t_76]
 have he:=vaB_eq t
 rw[vasB_all] at he
 refine onc sP ?_
 refine ho_lp (fun (i:Nat) v h=>(∃a b,v=[a,b,.int .i64 i,.bool false,.ref 0 0])∧h=nw h0 (.cells 3 (cT t))∧i≤t.kids.length∧∀x,x∈t.kids.take i→vaB x=true) (fun i=>t.kids.length-i) 0 ⟨⟨_,_,rfl⟩,rfl,Nat.zero_le _,fun x hx=>by cases hx⟩ (by omega) ?_
 rintro i v h L ⟨⟨a,b,rfl⟩,rfl,hi,hm⟩ ih'
 refine onc sP (ho_br (fun c1=>?_) (fun c1=>?_))
 ·refine onc sP ?_
  refine(ih _ (getD_mem (i:=i) (by omega)) (hk.2 _ (getD_mem (by omega)))).call ?_
  refine on (ho_br (fun c2=>?_) (fun c2=>?_))
  ·refine fin_b (decide_eq_false fun e=>c2 ?_).symm
   rw[e] at he
   have:=(Bool.and_eq_true_iff.1 he.symm).1
   exact List.all_eq_true.1 this _ (getD_mem (by omega))
  ·refine on ?_
   exact ih' (i+1) _ _ ⟨⟨_,_,rfl⟩,rfl,by omega,all_snoc (by omega) hm (Classical.not_not.1 c2)⟩ (by omega)
 ·rw[List.take_of_length_le (by omega)] at hm
  rw[List.all_eq_true.2 hm,Bool.true_and] at he
  rw[dB,he]
  generalize hb:(decide (1≤t.op∧t.op≤3)||decide (t.op=5))=b
  by_cases c2:1≤t.op
  ·by_cases c3:t.op≤3
   ·refine onc (And.intro c2 <| And.intro c3 sP) ?_
    exact fin_b (by rw[←hb,decide_eq_true ⟨c2,c3⟩];rfl)
   ·refine onc (And.intro c2 <| And.intro c3 sP) ?_
    exact fin_b (by rw[←hb,show decide (1≤t.op∧t.op≤3)=false from decide_eq_false (fun h=>c3 h.2),Bool.false_or])
  ·refine onc (And.intro c2 sP) ?_
   exact fin_b (by rw[←hb,show decide (1≤t.op∧t.op≤3)=false from decide_eq_false (fun h=>c2 h.1),Bool.false_or])
mutual
def relB (P:Int→Bool):Tm→Tm→Bool
 |.mk o n _ l,u=>P o||decide (o=u.op∧n=u.n∧(l.length:Int)=u.kids.length)&&relsB P l u.kids
def relsB (P:Int→Bool):List Tm→List Tm→Bool
 |[],_=>true
 |t::r,u=>relB P t (u.headD default)&&relsB P r u.tail
end
theorem relB_eq (P:Int→Bool)(t u:Tm):relB P t u=(P t.op||decide (t.op=u.op∧t.n=u.n∧(t.kids.length:Int)=u.kids.length)&&relsB P t.kids u.kids):=by cases t;rw[relB];rfl
theorem relsB_iff {P:Int→Bool}:∀{l u:List Tm},l.length=u.length→(relsB P l u=true↔∀i,i<l.length→relB P (l.getD i default) (u.getD i default)=true)
 |[],_,_=>by rw[relsB];exact⟨fun _ i hi=>absurd hi (Nat.not_lt_zero _),fun _=>rfl⟩
 |t::r,[],h=>by cases h
 |t::r,u::v,h=>by
  rw[relsB,Bool.and_eq_true,show(u::v).headD default=u from rfl,show(u::v).tail=v from rfl,relsB_iff (l:=r) (u:=v) (by simpa using h)]
  constructor
  ·rintro ⟨h1,h2⟩ i hi
   cases i with
   |zero=>exact h1
   |succ i=>exact h2 i (Nat.lt_of_succ_lt_succ hi)
  ·intro h
   exact⟨h 0 (Nat.succ_pos _),fun i hi=>h (i+1) (Nat.succ_lt_succ hi)⟩
theorem c_Same (t:Tm):∀u:Tm,Few t→Pu Tryz.prog 41 [eT t,eT u] (.bool (decide (relB (fun _=>false) t u=true))):=by
 induction t using Tm.rec' with
 |h t ih=>
 intro u hw
 have hk:=hw.kids
 have h1:=hk.1
 refine Pu.of prOk (by kernel_rfl) ⟨eT_below _,eT_below _,trivial⟩ ?_
 rw[t_41]
 have he:=relB_eq (fun _=>false) t u
 rw[Bool.false_or] at he
 by_cases c:t.op=u.op∧t.n=u.n∧(t.kids.length:Int)=u.kids.length
 case neg=>
  rw[decide_eq_false c,Bool.false_and] at he
  rw[he]
  by_cases c1:t.op=u.op
  ·by_cases c2:t.n=u.n
   ·have c3:¬(t.kids.length:Int)=u.kids.length:=fun e=>c ⟨c1,c2,e⟩
    refine onc (And.intro c1 <| And.intro c2 <| And.intro c3 sP) ?_
    exact fin_b rfl
   ·refine onc (And.intro c1 <| And.intro c2 sP) ?_
    exact fin_b rfl
  ·refine onc (And.intro c1 sP) ?_
   exact fin_b rfl
 rw[decide_eq_true c,Bool.true_and] at he
 obtain⟨c1,c2,c3⟩:=c
 generalize hR:AV.bool (decide (relB (fun _=>false) t u=true))=R
 refine onc (And.intro c1 <| And.intro c2 <| And.intro c3 sP) ?_
 have hi2:=relsB_iff (P:=fun _=>false) (l:=t.kids) (u:=u.kids) (by omega)
 refine ho_lp (fun (i:Nat) v h=>(∃a b,v=[a,b,.int .i64 i,.bool false,.ref 1 0,.ref 0 0])∧h=nw (nw h0 (.cells 3 (cT t))) (.cells 3 (cT u))∧i≤t.kids.length∧∀j,j<i→relB (fun _=>false) (t.kids.getD j default) (u.kids.getD j default)=true) (fun i=>t.kids.length-i) 0 ⟨⟨_,_,rfl⟩,rfl,Nat.zero_le _,fun x hx=>absurd hx (Nat.not_lt_zero _)⟩ (by omega) ?_
 rintro i v h L ⟨⟨a,b,rfl⟩,rfl,hi,hm⟩ ih'
 refine onc sP (ho_br (fun c4=>?_) (fun c4=>?_))
 ·refine onc sP ?_
  refine(ih _ (getD_mem (i:=i) (by omega)) (u.kids.getD i default) (hk.2 _ (getD_mem (by omega)))).call ?_
  refine on (ho_br (fun c5=>?_) (fun c5=>?_))
  ·rw[←hR]
   refine fin_b (decide_eq_false fun e=>c5 ?_).symm
   exact hi2.1 (he.symm.trans e) i (by omega)
  ·refine on ?_
   refine ih' (i+1) _ _ ⟨⟨_,_,rfl⟩,rfl,by omega,fun j hj=>?_⟩ (by omega)
   by_cases e:j=i
   ·rw[e];exact Classical.not_not.1 c5
   ·exact hm j (by omega)
 ·refine onc sP ?_
  rw[←hR]
  exact fin_b (by rw[dB,he,hi2.2 fun j hj=>hm j (by omega)])
theorem c_matches5 (t:Tm):∀u:Tm,Few t→Pu Tryz.prog 177 [eT t,eT u] (.bool (decide (relB (fun o=>decide (o=1)) t u=true))):=by
 induction t using Tm.rec' with
 |h t ih=>
 intro u hw
 have hk:=hw.kids
 have h1:=hk.1
 refine Pu.of prOk (by kernel_rfl) ⟨eT_below _,eT_below _,trivial⟩ ?_
 rw[t_177]
 have he:=relB_eq (fun o=>decide (o=1)) t u
 by_cases c0:t.op=1
 ·rw[decide_eq_true c0,Bool.true_or] at he
  rw[he]
  refine onc (And.intro c0 sP) ?_
  exact fin_b rfl
 rw[decide_eq_false c0,Bool.false_or] at he
 by_cases c:t.op=u.op∧t.n=u.n∧(t.kids.length:Int)=u.kids.length
 case neg=>
  rw[decide_eq_false c,Bool.false_and] at he
  rw[he]
  by_cases c1:t.op=u.op
  ·by_cases c2:t.n=u.n
   ·have c3:¬(t.kids.length:Int)=u.kids.length:=fun e=>c ⟨c1,c2,e⟩
    refine onc (And.intro (show ¬u.op=1 from fun e=>c0 (c1.trans e)) <| And.intro c1 <| And.intro c2 <| And.intro c3 sP) ?_
    exact fin_b rfl
   ·refine onc (And.intro (show ¬u.op=1 from fun e=>c0 (c1.trans e)) <| And.intro c1 <| And.intro c2 sP) ?_
    exact fin_b rfl
  ·refine onc (And.intro c0 <| And.intro c1 sP) ?_
   exact fin_b rfl
 rw[decide_eq_true c,Bool.true_and] at he
 obtain⟨c1,c2,c3⟩:=c
 generalize hR:AV.bool (decide (relB (fun o=>decide (o=1)) t u=true))=R
 refine onc (And.intro (show ¬u.op=1 from fun e=>c0 (c1.trans e)) <| And.intro c1 <| And.intro c2 <| And.intro c3 sP) ?_
 have hi2:=relsB_iff (P:=fun o=>decide (o=1)) (l:=t.kids) (u:=u.kids) (by omega)
 refine ho_lp (fun (i:Nat) v h=>(∃a b,v=[a,b,.int .i64 i,.bool false,.ref 1 0,.ref 0 0])∧h=nw (nw h0 (.cells 3 (cT t))) (.cells 3 (cT u))∧i≤t.kids.length∧∀j,j<i→relB (fun o=>decide (o=1)) (t.kids.getD j default) (u.kids.getD j default)=true) (fun i=>t.kids.length-i) 0 ⟨⟨_,_,rfl⟩,rfl,Nat.zero_le _,fun x hx=>absurd hx (Nat.not_lt_zero _)⟩ (by omega) ?_
 rintro i v h L ⟨⟨a,b,rfl⟩,rfl,hi,hm⟩ ih'
 refine onc sP (ho_br (fun c4=>?_) (fun c4=>?_))
 ·refine onc sP ?_
  refine(ih _ (getD_mem (i:=i) (by omega)) (u.kids.getD i default) (hk.2 _ (getD_mem (by omega)))).call ?_
  refine on (ho_br (fun c5=>?_) (fun c5=>?_))
  ·rw[←hR]
   refine fin_b (decide_eq_false fun e=>c5 ?_).symm
   exact hi2.1 (he.symm.trans e) i (by omega)
  ·refine on ?_
   refine ih' (i+1) _ _ ⟨⟨_,_,rfl⟩,rfl,by omega,fun j hj=>?_⟩ (by omega)
   by_cases e:j=i
   ·rw[e];exact Classical.not_not.1 c5
   ·exact hm j (by omega)
 ·refine onc sP ?_
  rw[←hR]
  exact fin_b (by rw[dB,he,hi2.2 fun j hj=>hm j (by omega)])
end
end Go.Proofs.YtgmjpmeddajmgaaGreat
namespace Go.Proofs.YtgmjpmeddajmgaaGreat
open Go Go.Avm Go.Bvm
set_option maxRecDepth 100000
set_option linter.unusedVariables false
set_option linter.unusedSimpArgs false
set_option linter.defProp false
noncomputable section
attribute [local irreducible] jn jv br lp ck iff wB wG wRef wSl wCl wAg wTu wStr wFn wIfc wInt wCe wRe wMp wFr ad sb ml lt le eqi nei eq1 isNil un cvt fa len lens ix ixA ixS ixV ld1 ldn sto al bx pt bs ms app cpy sli lkm mup men mst mrg srg snx mnx mtr tas lenm rgT rgE finR mfind mset mput wKey wMa sV sem fin Ho
theorem t_26 (t:Tb)(h:H)(K Pn:KVH)(x0 x1 x2:AV):(compF Tryz.prog (drawsC Tryz.prog) 26).r t [x0,x1,x2] h K Pn=ck true (bx x0 h fun v h=>len x2 fun v_1=>fa 0 v fun v_2=>fa 1 v_2 fun v_3=>ld1 h v_3 fun v_4=>ix 2 v_4 x1 fun v_5=>fa 1 v_5 fun v_6=>ld1 h v_6 fun v_7=>nei v_1 v_7 fun v_8=>jn (fun l h=>e5 l fun x x_1 x_2 x_3 x_4=>jn (fun l h=>K (AV.bool true) h) fun k=>lp (fun L l h=>e6 l fun x x_5 x_6 x_7 x_8 x_9=>len x_9 fun v=>lt x_6 v fun v=>jn (fun l h=>e5 l fun x x_10 x_11 x_12 x_13=>jn (fun l h=>e6 l fun x x_14 x_15 x_16 x_17 x_18=>ad x_15 (mkI 1) fun v=>L [x,x_14,v,x_16,x_17,x_18] h) fun k=>ix 3 x_13 x_10 fun v=>ldn 3 h v fun v=>fa 0 x_12 fun v_9=>ldn 2 h v_9 fun v_10=>(t.C 75).r [v_10,v] h (fun v h=>un v fun v=>jv (fun v_11 h=>jv (fun v_12 h=>jv (fun v_13 h=>jv (fun v_14 h=>jv (fun v_15 h=>jv (fun v_16 h=>jv (fun v h=>jn k fun k=>wB v (K (AV.bool false) h) (k [v,x,x_10,x_11,x_12,x_13] h)) fun k=>wB v (k (AV.bool true) h) (k v_16 h)) fun k=>wG false v (un v_15 fun v=>k v h) (k skipV h)) fun k=>wG false v ((t.C 76).r [v_14] h k Pn) (k skipV h)) fun k=>wG false v (ldn 3 h v_13 fun v=>k v h) (k skipV h)) fun k=>wG false v (ix 3 v_12 v_11 fun v=>k v h) (k skipV h)) fun k=>wG false v (k x_13 h) (k skipV h)) fun k=>wG false v (k x_10 h) (k skipV h)) Pn) fun k_1=>wB v (k_1 [v,x_6,x_7,x_8,x_9] h) (k [] h)) [x,x_1,mkI 0,x_2,x_3,x_4] h) fun k=>wB v_8 (K (AV.bool false) h) (k [AV.any,AV.any,AV.bool false,v,x2] h)):=by kernel_rfl
theorem t_130 (t:Tb)(h:H)(K Pn:KVH)(x0 x1:AV):(compF Tryz.prog (drawsC Tryz.prog) 130).r t [x0,x1] h K Pn=ck true (bx x0 h fun v h=>jn (fun l h=>K (AV.bool true) h) fun k=>lp (fun L l h=>e6 l fun x x_1 x_2 x_3 x_4 x_5=>len x_5 fun v=>lt x_2 v fun v=>jn (fun l h=>e5 l fun x x_6 x_7 x_8 x_9=>jn (fun l h=>e6 l fun x x_10 x_11 x_12 x_13 x_14=>ad x_11 (mkI 1) fun v=>L [x,x_10,v,x_12,x_13,x_14] h) fun k=>ix 3 x_9 x_6 fun v=>ldn 3 h v fun v=>fa 1 x_8 fun v_1=>ld1 h v_1 fun v_2=>ix 3 v_2 x_6 fun v_3=>ldn 3 h v_3 fun v_4=>(t.C 177).r [v_4,v] h (fun v h=>un v fun v=>jn k fun k=>wB v (K (AV.bool false) h) (k [v,x,x_6,x_7,x_8,x_9] h)) Pn) fun k_1=>wB v (k_1 [v,x_2,x_3,x_4,x_5] h) (k [] h)) [AV.any,AV.any,mkI 0,AV.bool false,v,x1] h):=by kernel_rfl
def argsR (s:Sg)(n:Int)(l:List Tm):Prop:=(l.length:Int)=(s.funs.getD n.toNat default).args∧∀t,t∈l→termOk s t∧vaB t=true
instance (s:Sg)(n:Int)(l:List Tm):Decidable (argsR s n l):=Classical.propDecidable _
theorem c_Args (p:Pg)(n:Int)(k:Fz)(l:List Tm)(hp:smallP p)(hn:funIn p n)(hl:smallTs l):Pu Tryz.prog 26 [eP p,.int .i64 n,eTs k l] (.bool (decide (argsR p.sig n l))):=by
 refine Pu.of prOk (by kernel_rfl) ⟨eP_below _,trivial,trivial,trivial⟩ ?_
 rw[t_26]
 have h1:=hp.f3.f1
 have h2:=hp.f3.f2
 have hl6:=hl.f1
 obtain⟨hn1,hn2⟩:=hn
 have no:¬argsR p.sig n l→∀h,Ho (fin Tryz.prog (.bool (decide (argsR p.sig n l))) (.bool false) h):=fun hn h=>fin_b (decide_eq_false hn).symm
 refine onc sP (ho_br (fun c1=>?_) (fun c1=>?_))
 ·refine onc c1 ?_
  exact no (fun e=>c1 e.1) _
 have c1':=Classical.not_not.1 c1
 refine onc (And.intro c1 sP) ?_
 refine ho_lp (fun (i:Nat) v h=>(∃a b c,v=[a,b,.int .i64 i,c,.ref 0 0,eTs k l])∧h=nw h0 (.cells 3 (cP p))∧i≤l.length∧∀t,t∈l.take i→termOk p.sig t∧vaB t=true) (fun i=>l.length-i) 0 ⟨⟨_,_,_,rfl⟩,rfl,Nat.zero_le _,fun x hx=>by cases hx⟩ (by omega) ?_
 rintro i v h L ⟨⟨a,b,c,rfl⟩,rfl,hi,hm⟩ ih
 refine onc sP (ho_br (fun c5=>?_) (fun c5=>?_))
 ·have hmem:l.getD i default∈l:=getD_mem (by omega)
  refine onc sP ?_
  refine(c_Term p.sig (by omega) (by omega) _).le (LeL.cons (le_sig p) LeL.same1) ?_
  refine onc sP (ho_br (fun c6=>?_) (fun c6=>?_))
  ·refine onc c6 ?_
   exact no (fun e=>c6 (e.2 _ hmem).1) _
  refine onc (And.intro c6 sP) ?_
  refine(c_Value _ (hl.f2 _ hmem).few).call ?_
  refine onc (And.intro c6 sP) (ho_br (fun c7=>?_) (fun c7=>?_))
  ·exact no (fun e=>c7 (e.2 _ hmem).2) _
  refine on ?_
  exact ih (i+1) _ _ ⟨⟨_,_,_,rfl⟩,rfl,by omega,all_snoc (by omega) hm ⟨Classical.not_not.1 c6,Classical.not_not.1 c7⟩⟩ (by omega)
 rw[List.take_of_length_le (by omega)] at hm
 exact fin_b (decide_eq_true ⟨c1',hm⟩).symm
def mtB (r:Rl)(l:List Tm):Bool:=relsB (fun o=>decide (o=1)) r.pats l
theorem c_Match5 (r:Rl)(k:Fz)(l:List Tm)(hlen:r.pats.length=l.length)(hl:l.length≤1000)(hf:∀t,t∈r.pats→Few t):Pu Tryz.prog 130 [eR r,eTs k l] (.bool (decide (mtB r l=true))):=by
 refine Pu.of prOk (by kernel_rfl) ⟨eR_below _,trivial,trivial⟩ ?_
 rw[t_130]
 have hi2:=relsB_iff (P:=fun o=>decide (o=1)) hlen
 refine onc sP ?_
 refine ho_lp (fun (i:Nat) v h=>(∃a b c,v=[a,b,.int .i64 i,c,.ref 0 0,eTs k l])∧h=nw h0 (.cells 6 (cR r))∧i≤l.length∧∀j,j<i→relB (fun o=>decide (o=1)) (r.pats.getD j default) (l.getD j default)=true) (fun i=>l.length-i) 0 ⟨⟨_,_,_,rfl⟩,rfl,Nat.zero_le _,fun x hx=>absurd hx (Nat.not_lt_zero _)⟩ (by omega) ?_
 rintro i v h L ⟨⟨a,b,c,rfl⟩,rfl,hi,hm⟩ ih
 refine onc sP (ho_br (fun c4=>?_) (fun c4=>?_))
 ·refine onc sP ?_
  refine(c_matches5 _ (l.getD i default) (hf _ (getD_mem (i:=i) (by omega)))).call ?_
  refine on (ho_br (fun c5=>?_) (fun c5=>?_))
  ·exact fin_b (decide_eq_false fun e=>c5 (hi2.1 e i (by omega))).symm
  ·refine on ?_
   refine ih (i+1) _ _ ⟨⟨_,_,_,rfl⟩,rfl,by omega,fun j hj=>?_⟩ (by omega)
   by_cases e:j=i
   ·rw[e];exact Classical.not_not.1 c5
   ·exact hm j (by omega)
 ·exact fin_b (decide_eq_true (hi2.2 fun j hj=>hm j (by omega))).symm
end
end Go.Proofs.YtgmjpmeddajmgaaGreat
namespace Go.Proofs.YtgmjpmeddajmgaaGreat
open Go Go.Avm Go.Bvm
set_option maxRecDepth 100000
set_option linter.unusedVariables false
set_option linter.unusedSimpArgs false
set_option linter.defProp false
noncomputable section
attribute [local irreducible] jn jv br lp ck iff wB wG wRef wSl wCl wAg wTu wStr wFn wIfc wInt wCe wRe wMp wFr ad sb ml lt le eqi nei eq1 isNil un cvt fa len lens ix ixA ixS ixV ld1 ldn sto al bx pt bs ms app cpy sli lkm mup men mst mrg srg snx mnx mtr tas lenm rgT rgE finR mfind mset mput wKey wMa sV sem fin Ho
theorem t_77 (t:Tb)(h:H)(K Pn:KVH)(x0 x1 x2:AV):(compF Tryz.prog (drawsC Tryz.prog) 77).r t [x0,x1,x2] h K Pn=ck true (bx x0 h fun v h=>al 2 [AV.fz Fz.nil 0 0 fun _ _=>AV.any,AV.fz Fz.nil 0 0 fun _ _=>AV.any] h fun v_1 h=>al 2 [AV.fz Fz.nil 0 0 fun _ _=>AV.any,AV.fz Fz.nil 0 0 fun _ _=>AV.any] h fun v_2 h=>jn (fun l h=>e2 l fun x x_1=>ldn 2 h x fun v=>sto 2 h x_1 v fun h=>wRef x_1 (fun x x_2=>ldn 2 h x_1 fun v=>K v h) fun x x_2=>none) fun k=>lp (fun L l h=>e8 l fun x x_1 x_2 x_3 x_4 x_5 x_6 x_7=>len x_7 fun v=>lt x_2 v fun v=>jn (fun l h=>e7 l fun x x_8 x_9 x_10 x_11 x_12 x_13=>jn (fun l h=>e8 l fun x x_14 x_15 x_16 x_17 x_18 x_19 x_20=>ad x_15 (mkI 1) fun v=>L [x,x_14,v,x_16,x_17,x_18,x_19,x_20] h) fun k=>ix 1 x_13 x_8 fun v=>ld1 h v fun v=>fa 2 x_11 fun v_3=>ld1 h v_3 fun v_4=>ix 6 v_4 v fun v=>ldn 6 h v fun v=>(t.C 130).r [v,x_12] h (fun v h=>jn k fun k=>wB v (ix 1 x_13 x_8 fun v_5=>ld1 h v_5 fun v_6=>pt 0 1 v_6 [mkI 0] fun cs=>bs 1 1 1 cs h fun x_14 x_15=>fa 0 x_9 fun v_7=>ld1 h v_7 fun v_8=>pt 0 1 v_6 [mkI 0] fun cs=>bs 1 1 1 cs h fun v_9 h=>app 1 8 v_8 v_9 h fun v_10 h=>fa 0 x_9 fun v_11=>sto 1 h v_11 v_10 fun h=>k [v,x,x_8,x_9,x_10,x_11,x_12,x_13] h) (ix 1 x_13 x_8 fun v_5=>ld1 h v_5 fun v_6=>pt 0 1 v_6 [mkI 0] fun cs=>bs 1 1 1 cs h fun x_14 x_15=>fa 1 x_9 fun v_7=>ld1 h v_7 fun v_8=>pt 0 1 v_6 [mkI 0] fun cs=>bs 1 1 1 cs h fun v_9 h=>app 1 8 v_8 v_9 h fun v_10 h=>fa 1 x_9 fun v_11=>sto 1 h v_11 v_10 fun h=>k [v,x,x_8,x_9,x_10,x_11,x_12,x_13] h)) Pn) fun k_1=>wB v (k_1 [v,x_2,x_3,x_4,x_5,x_6,x_7] h) (k [x_3,x_4] h)) [AV.any,AV.any,mkI 0,v_2,v_1,v,x2,x1] h):=by kernel_rfl
theorem t_28 (t:Tb)(h:H)(K Pn:KVH)(x0 x1 x2:AV):(compF Tryz.prog (drawsC Tryz.prog) 28).r t [x0,x1,x2] h K Pn=ck true (bx x0 h fun v h=>ldn 3 h v fun v_1=>ldn 3 h v fun v_2=>(t.C 52).r [v_1,x1] h (fun v_3 h=>ldn 3 h v fun v=>sV v_2 v ((t.C 77).r [v_2,v_3,x2] h (fun v h=>wAg v fun m g=>ck (Nat.ble 1 m) (K (g 0) h)) Pn)) Pn):=by kernel_rfl
def yesP (p:Pg)(l:List Tm)(j:Int):Bool:=mtB (p.rules.getD j.toNat default) l
theorem nil_ob {s es q:Nat}{g:Nat→Nat→AV}:¬Ob (.fz .nil s 0 g) es q:=by
 rintro ⟨w,n,h1,e⟩
 cases e
theorem ow_ob {w:Bool}{o n es q:Nat}(h:Ob (.ow w o n es) es q):q=o:=by
 obtain⟨w',n',h1,e⟩:=h
 cases e
 rfl
theorem c_matching (p:Pg)(kk:Fz)(L:List Int)(k:Fz)(l:List Tm)(hp:smallP p)(hl:l.length≤1000)(hL:L.length≤1000)(hj:∀j,j∈L→0≤j∧j<p.rules.length∧(p.rules.getD j.toNat default).pats.length=l.length):Pu Tryz.prog 77 [eP p,eI kk L,eTs k l] (.agg 2 (nx [eI .auto (L.filter (yesP p l)),eI .auto (L.filter fun j=> !yesP p l j)])):=by
 refine Pu.of prOk (by kernel_rfl) ⟨eP_below _,trivial,trivial,trivial⟩ ?_
 rw[t_77]
 generalize hR:AV.agg 2 (nx [eI .auto (L.filter (yesP p l)),eI .auto (L.filter fun j=> !yesP p l j)])=R
 refine onc sP ?_
 refine ho_lp (fun (i:Nat) v h=>(∃a b y z,v=[a,b,.int .i64 i,.ref 2 0,.ref 1 0,.ref 0 0,eTs k l,eI kk L]∧gt h 2=.cells 2 [y,z]∧Gr true 3 h y 1 (cells cI ((L.take i).filter (yesP p l))) ((L.take i).filter (yesP p l)).length∧Gr true 3 h z 1 (cells cI ((L.take i).filter fun j=> !yesP p l j)) ((L.take i).filter fun j=> !yesP p l j).length∧∀q,Ob y 1 q→¬Ob z 1 q)∧3≤h.n∧gt h 0=.cells 3 (cP p)∧(∃y z,gt h 1=.cells 2 [y,z])∧i≤L.length) (fun i=>L.length-i) 0 ⟨⟨_,_,_,_,rfl,gt_nw _ _,.nil,.nil,fun q o=>absurd o nil_ob⟩,Nat.le_refl _,?_,⟨.fz .nil 0 0 fun _ _=>.any,.fz .nil 0 0 fun _ _=>.any,?_⟩,Nat.zero_le _⟩ (by omega) ?_
 ·simp(disch:=omega) only [sG]
 ·simp(disch:=omega) only [sG]
 rintro i v h F ⟨⟨a,b,y,z,rfl,g2,gy,gz,dj⟩,hn,g0,⟨y1,z1,g1⟩,hi⟩ ih
 have n1:((L.take i).filter (yesP p l)).length≤i:=Nat.le_trans (List.length_filter_le ..) (by rw[List.length_take];omega)
 have n2:((L.take i).filter fun j=> !yesP p l j).length≤i:=Nat.le_trans (List.length_filter_le ..) (by rw[List.length_take];omega)
 refine onc sP (ho_br (fun c4=>?_) (fun c4=>?_))
 ·have hm:L.getD i default∈L:=getD_mem (by omega)
  obtain⟨j1,j2,j3⟩:=hj _ hm
  have hmem:p.rules.getD (L.getD i default).toNat default∈p.rules:=getD_mem (by omega)
  have hS:=hp.f2 _ hmem
  refine onc (And.intro g0 <| And.intro g1 <| And.intro g2 <| And.intro @cI0 sP) ?_
  refine(c_Match5 _ k l j3 hl (fun t ht=>(hS.f1.f2 t ht).few)).call ?_
  have g01:∀{v:AV} {n:Nat} {cs:LA},Gr true 3 h v 1 cs n→∀q,q<3→¬Ob v 1 q:=fun g q hq o=>by have:=(g.ob o).1;omega
  rw[dB]
  cases hb:mtB (p.rules.getD (L.getD i default).toNat default) l with
  |true=>
   have hy:yesP p l (L.getD i default)=true:=hb
   have ey:(L.take (i+1)).filter (yesP p l)=(L.take i).filter (yesP p l)++[L.getD i default]:=by rw[take_snoc (by omega),List.filter_append,List.filter_cons_of_pos hy];rfl
   have ez:((L.take (i+1)).filter fun j=> !yesP p l j)=(L.take i).filter fun j=> !yesP p l j:=by rw[take_snoc (by omega),List.filter_append,List.filter_cons_of_neg (by rw[hy];decide)];exact List.append_nil _
   refine onc (And.intro g2 sP) ?_
   refine gr_app1 gy rfl (by omega) (by omega) hn (fun h' gy' hn' hq=>?_)
   have g2':gt h' 2=.cells 2 [y,z]:=(hq 2 (by omega) (g01 gy 2 (by omega))).trans g2
   refine onc (And.intro g2' sP) ?_
   have gz':=gz.kp (Nat.le_of_succ_le hn') (fun o ho=>hq o (gz.ob ho).2 fun hy=>dj o hy ho)
   refine ih (i+1) _ _ ⟨⟨_,_,_,_,rfl,gt_st _ _ _,?_,?_,fun q o1 o2=>?_⟩,?_,?_,⟨y1,z1,?_⟩,by omega⟩ (by omega)
   ·rw[ey,←cells_one,List.length_append]
    exact gy'.kp (Nat.le_refl _) fun o ho=>gt_st_ne _ _ (by have:=(gy'.ob ho).1;omega)
   ·rw[ez]
    exact gz'.kp (Nat.le_refl _) fun o ho=>gt_st_ne _ _ (by have:=(gz.ob ho).1;omega)
   ·have:=(gz.ob o2).2
    have:=ow_ob o1
    omega
   ·show 3≤h'.n;omega
   ·exact(gt_st_ne _ _ (by omega)).trans ((hq 0 (by omega) (g01 gy 0 (by omega))).trans g0)
   ·exact(gt_st_ne _ _ (by omega)).trans ((hq 1 (by omega) (g01 gy 1 (by omega))).trans g1)
  |false=>
   have hy:yesP p l (L.getD i default)=false:=hb
   have ey:(L.take (i+1)).filter (yesP p l)=(L.take i).filter (yesP p l):=by rw[take_snoc (by omega),List.filter_append,List.filter_cons_of_neg (by rw[hy];decide)];exact List.append_nil _
   have ez:((L.take (i+1)).filter fun j=> !yesP p l j)=((L.take i).filter fun j=> !yesP p l j)++[L.getD i default]:=by rw[take_snoc (by omega),List.filter_append,List.filter_cons_of_pos (by rw[hy];decide)];rfl
   refine onc (And.intro g2 sP) ?_
   refine gr_app1 gz rfl (by omega) (by omega) hn (fun h' gz' hn' hq=>?_)
   have g2':gt h' 2=.cells 2 [y,z]:=(hq 2 (by omega) (g01 gz 2 (by omega))).trans g2
   refine onc (And.intro g2' sP) ?_
   have gy':=gy.kp (Nat.le_of_succ_le hn') (fun o ho=>hq o (gy.ob ho).2 fun hz=>dj o ho hz)
   refine ih (i+1) _ _ ⟨⟨_,_,_,_,rfl,gt_st _ _ _,?_,?_,fun q o1 o2=>?_⟩,?_,?_,⟨y1,z1,?_⟩,by omega⟩ (by omega)
   ·rw[ey]
    exact gy'.kp (Nat.le_refl _) fun o ho=>gt_st_ne _ _ (by have:=(gy.ob ho).1;omega)
   ·rw[ez,←cells_one,List.length_append]
    exact gz'.kp (Nat.le_refl _) fun o ho=>gt_st_ne _ _ (by have:=(gz'.ob ho).1;omega)
   ·have:=(gy.ob o1).2
    have:=ow_ob o2
    omega
   ·show 3≤h'.n;omega
   ·exact(gt_st_ne _ _ (by omega)).trans ((hq 0 (by omega) (g01 gz 0 (by omega))).trans g0)
   ·exact(gt_st_ne _ _ (by omega)).trans ((hq 1 (by omega) (g01 gz 1 (by omega))).trans g1)
 ·rw[List.take_of_length_le (by omega)] at gy gz
  refine onc (And.intro g1 <| And.intro g2 sP) ?_
  rw[←hR]
  have ky:∀c,Gr true 3 (st h 1 c) y 1 _ _:=fun c=>gy.kp (h':=st h 1 c) (Nat.le_refl _) fun o ho=>gt_st_ne _ _ (by have:=(gy.ob ho).1;omega)
  have kz:∀c,Gr true 3 (st h 1 c) z 1 _ _:=fun c=>gz.kp (h':=st h 1 c) (Nat.le_refl _) fun o ho=>gt_st_ne _ _ (by have:=(gz.ob ho).1;omega)
  exact ho_fin (Fzs.agg fun j hj=>match j,hj with
   |0,_=>(ky _).fz rfl rfl cI_len (by omega) (fun x _=>cI_below x)
   |1,_=>(kz _).fz rfl rfl cI_len (by omega) (fun x _=>cI_below x))
theorem cN_Sv (x:Nm):∀j,j<2→Sv (nx (cN x) j)
 |0,_=>Sv.str _
 |1,_=>Sv.int _ _
theorem cR_Sv (r:Rl):∀j,j<6→Sv (nx (cR r) j)
 |0,_=>Sv.int _ _
 |1,_=>Sv.fzM fun t _=>cT_Sv t
 |2,_=>Sv.int _ _
 |3,_=>Sv.int _ _
 |4,_=>Sv.fzM fun t _=>cT_Sv t
 |5,_=>Sv.int _ _
theorem cP_Sv (p:Pg):Sv (.agg 3 (nx (cP p))):=Sv.agg fun i hi=>match i,hi with
 |0,_=>Sv.fzM fun x _=>cN_Sv x
 |1,_=>Sv.fzM fun x _=>cN_Sv x
 |2,_=>Sv.fzM fun r _=>cR_Sv r
theorem c_Matches5 (p:Pg)(n:Int)(k:Fz)(l:List Tm)(hp:smallP p)(hl:l.length≤1000)(hj:∀j,j∈ofL p.rules 0 n→(p.rules.getD j.toNat default).pats.length=l.length):Pu Tryz.prog 28 [eP p,.int .i64 n,eTs k l] (eI .auto ((ofL p.rules 0 n).filter (yesP p l))):=by
 refine Pu.of prOk (by kernel_rfl) ⟨eP_below _,trivial,trivial,trivial⟩ ?_
 rw[t_28]
 have hp1:=hp.f1
 have hol:=ofL_len p.rules 0 n
 refine onc sP ?_
 refine(c_Rules5 p (by omega) n).call ?_
 refine onc sP ?_
 rw[cP_Sv p]
 refine(c_matching p .auto (ofL p.rules 0 n) k l hp hl (by omega) (fun j h=>?_)).call ?_
 ·obtain⟨h1,h2,_⟩:=ofL_mem h
  exact⟨h1,by omega,hj j h⟩
 ·refine on ?_
  exact ho_fin (Fzs.of trivial)
end
end Go.Proofs.YtgmjpmeddajmgaaGreat
namespace Go.Proofs.YtgmjpmeddajmgaaGreat
open Go Go.Avm Go.Bvm
set_option maxRecDepth 100000
set_option linter.unusedVariables false
set_option linter.unusedSimpArgs false
set_option linter.defProp false
noncomputable section
attribute [local irreducible] jn jv br lp ck iff wB wG wRef wSl wCl wAg wTu wStr wFn wIfc wInt wCe wRe wMp wFr ad sb ml lt le eqi nei eq1 isNil un cvt fa len lens ix ixA ixS ixV ld1 ldn sto al bx pt bs ms app cpy sli lkm mup men mst mrg srg snx mnx mtr tas lenm rgT rgE finR mfind mset mput wKey wMa sV sem fin Ho
theorem t_31 (t:Tb)(h:H)(K Pn:KVH)(x0:AV):(compF Tryz.prog (drawsC Tryz.prog) 31).r t [x0] h K Pn=ck true (jn (fun l h=>e1 l fun x=>len x fun v=>le v (mkI 25) fun v=>K v h) fun k=>lp (fun L l h=>e5 l fun x x_1 x_2 x_3 x_4=>len x_4 fun v=>lt x_2 v fun v=>jv (fun v_1 h=>jv (fun v_2 h=>jv (fun v h=>jn (fun l h=>e4 l fun x x_5 x_6 x_7=>jn (fun l h=>e5 l fun x x_8 x_9 x_10 x_11=>ad x_9 (mkI 1) fun v=>L [x,x_8,v,x_10,x_11] h) fun k=>ix 4 x_7 x_5 fun v=>fa 1 v fun v=>ldn 3 h v fun v=>(t.C 79).r [v] h (fun v h=>un v fun v=>jn k fun k=>wB v (K (AV.bool false) h) (k [v,x,x_5,x_6,x_7] h)) Pn) fun k_1=>wB v (k_1 [v,x_2,x_3,x_4] h) (k [x_4] h)) fun k=>wB v (k v_2 h) (k (AV.bool false) h)) fun k=>wG true v (le v_1 (mkI 25) fun v=>k v h) (k skipV h)) fun k=>wG true v (k x_2 h) (k skipV h)) [AV.any,AV.any,mkI 0,AV.bool false,x0] h):=by kernel_rfl
theorem t_32 (t:Tb)(h:H)(K Pn:KVH)(x0 x1:AV):(compF Tryz.prog (drawsC Tryz.prog) 32).r t [x0,x1] h K Pn=ck true (len x0 fun v=>len x1 fun v_1=>nei v v_1 fun v=>jn (fun l h=>e5 l fun x x_1 x_2 x_3 x_4=>jn (fun l h=>K (AV.bool true) h) fun k=>lp (fun L l h=>e6 l fun x x_5 x_6 x_7 x_8 x_9=>len x_9 fun v=>lt x_6 v fun v=>jn (fun l h=>e5 l fun x x_10 x_11 x_12 x_13=>jn (fun l h=>e6 l fun x x_14 x_15 x_16 x_17 x_18=>ad x_15 (mkI 1) fun v=>L [x,x_14,v,x_16,x_17,x_18] h) fun k=>ix 4 x_12 x_10 fun v=>fa 0 v fun v=>ld1 h v fun v=>ix 4 x_13 x_10 fun v_2=>fa 0 v_2 fun v_3=>ld1 h v_3 fun v_4=>nei v_4 v fun v=>jv (fun v_5 h=>jv (fun v_6 h=>jv (fun v_7 h=>jv (fun v_8 h=>jv (fun v_9 h=>jv (fun v_10 h=>jv (fun v_11 h=>jv (fun v_12 h=>jv (fun v_13 h=>jv (fun v_14 h=>jv (fun v_15 h=>jv (fun v_16 h=>jv (fun v h=>jn k fun k=>wB v (K (AV.bool false) h) (k [v,x,x_10,x_11,x_12,x_13] h)) fun k=>wB v (k (AV.bool true) h) (k v_16 h)) fun k=>wG false v (un v_15 fun v=>k v h) (k skipV h)) fun k=>wG false v ((t.C 41).r [v_14,v_9] h k Pn) (k skipV h)) fun k=>wG false v (ldn 3 h v_13 fun v=>k v h) (k skipV h)) fun k=>wG false v (fa 1 v_12 fun v=>k v h) (k skipV h)) fun k=>wG false v (ix 4 v_11 v_10 fun v=>k v h) (k skipV h)) fun k=>wG false v (k x_13 h) (k skipV h)) fun k=>wG false v (k x_10 h) (k skipV h)) fun k=>wG false v (ldn 3 h v_8 fun v=>k v h) (k skipV h)) fun k=>wG false v (fa 1 v_7 fun v=>k v h) (k skipV h)) fun k=>wG false v (ix 4 v_6 v_5 fun v=>k v h) (k skipV h)) fun k=>wG false v (k x_12 h) (k skipV h)) fun k=>wG false v (k x_10 h) (k skipV h)) fun k_1=>wB v (k_1 [v,x_6,x_7,x_8,x_9] h) (k [] h)) [x,x_1,mkI 0,x_2,x_3,x_4] h) fun k=>wB v (K (AV.bool false) h) (k [AV.any,AV.any,AV.bool false,x1,x0] h)):=by kernel_rfl
theorem cB0 {b:Int × Tm}:nx (cB b) 0=.int .i64 b.1:=rfl
theorem cB_tb {b:Int × Tm}:tb 3 (nx (dr 1 (cB b)))=cT b.2:=cT_tb
def sB:=And.intro @cB0 <| And.intro @cB_tb sT
theorem c_SmallBinds (k:Fz)(l:List (Int × Tm))(hl:l.length≤25):Pu Tryz.prog 31 [fzM k 4 cB l] (.bool (decide (∀b,b∈l→small b.2))):=by
 refine Pu.of prOk (by kernel_rfl) ⟨trivial,trivial⟩ ?_
 rw[t_31]
 refine onc sB ?_
 refine ho_lp (fun (i:Nat) v h=>(∃a b c,v=[a,b,.int .i64 i,c,fzM k 4 cB l])∧h=h0∧i≤l.length∧∀x,x∈l.take i→small x.2) (fun i=>l.length-i) 0 ⟨⟨_,_,_,rfl⟩,rfl,Nat.zero_le _,fun x hx=>by cases hx⟩ (by omega) ?_
 rintro i v h L ⟨⟨a,b,c,rfl⟩,rfl,hi,hm⟩ ih
 by_cases c1:(i:Int)<l.length
 ·have c2:(i:Int)≤25:=by omega
  have hmem:l.getD i default∈l:=getD_mem (by omega)
  refine onc (And.intro c1 <| And.intro c2 sB) ?_
  refine(c_Small _).call ?_
  refine on (ho_br (fun c3=>?_) (fun c3=>?_))
  ·exact fin_b (decide_eq_false fun e=>c3 (e _ hmem)).symm
  ·refine on ?_
   exact ih (i+1) _ _ ⟨⟨_,_,_,rfl⟩,rfl,by omega,all_snoc (Q:=fun x:Int × Tm=>small x.2) (by omega) hm (Classical.not_not.1 c3)⟩ (by omega)
 ·rw[List.take_of_length_le (by omega)] at hm
  have c2:(l.length:Int)≤25:=by omega
  refine onc (And.intro c1 <| And.intro c2 sB) ?_
  exact fin_b (decide_eq_true hm).symm
def sameBs (a b:List (Int × Tm)):Prop:=(a.length:Int)=b.length∧∀i,i<a.length→(a.getD i default).1=(b.getD i default).1∧relB (fun _=>false) (a.getD i default).2 (b.getD i default).2=true
instance (a b:List (Int × Tm)):Decidable (sameBs a b):=Classical.propDecidable _
theorem c_SameBinds (k j:Fz)(a b:List (Int × Tm))(ha:a.length≤1000)(hf:∀x,x∈a→Few x.2):Pu Tryz.prog 32 [fzM k 4 cB a,fzM j 4 cB b] (.bool (decide (sameBs a b))):=by
 refine Pu.of prOk (by kernel_rfl) ⟨trivial,trivial,trivial⟩ ?_
 rw[t_32]
 have no:¬sameBs a b→∀h,Ho (fin Tryz.prog (.bool (decide (sameBs a b))) (.bool false) h):=fun hn h=>fin_b (decide_eq_false hn).symm
 by_cases c:(a.length:Int)=b.length
 case neg=>
  refine onc (And.intro c sB) ?_
  exact no (fun e=>c e.1) _
 generalize hR:AV.bool (decide (sameBs a b))=R at no ⊢
 refine onc (And.intro c sB) ?_
 refine ho_lp (fun (i:Nat) v h=>(∃x y z,v=[x,y,.int .i64 i,z,fzM j 4 cB b,fzM k 4 cB a])∧h=h0∧i≤a.length∧∀q,q<i→(a.getD q default).1=(b.getD q default).1∧relB (fun _=>false) (a.getD q default).2 (b.getD q default).2=true) (fun i=>a.length-i) 0 ⟨⟨_,_,_,rfl⟩,rfl,Nat.zero_le _,fun x hx=>absurd hx (Nat.not_lt_zero _)⟩ (by omega) ?_
 rintro i v h L ⟨⟨x,y,z,rfl⟩,rfl,hi,hm⟩ ih
 refine onc sB (ho_br (fun c1=>?_) (fun c1=>?_))
 ·have hmem:a.getD i default∈a:=getD_mem (by omega)
  by_cases c2:(a.getD i default).1=(b.getD i default).1
  ·refine onc (And.intro c2 sB) ?_
   refine(c_Same _ _ (hf _ hmem)).call ?_
   refine on (ho_br (fun c3=>?_) (fun c3=>?_))
   ·refine onc c3 ?_
    exact no (fun e=>c3 (e.2 i (by omega)).2) _
   ·refine onc c3 ?_
    refine ih (i+1) _ _ ⟨⟨_,_,_,rfl⟩,rfl,by omega,fun q hq=>?_⟩ (by omega)
    by_cases e:q=i
    ·rw[e];exact⟨c2,Classical.not_not.1 c3⟩
    ·exact hm q (by omega)
  ·refine onc (And.intro c2 sB) ?_
   exact no (fun e=>c2 (e.2 i (by omega)).1) _
 ·refine onc sB ?_
  rw[←hR]
  exact fin_b (decide_eq_true ⟨c,fun q hq=>hm q (by omega)⟩).symm
end
end Go.Proofs.YtgmjpmeddajmgaaGreat
namespace Go.Proofs.YtgmjpmeddajmgaaGreat
open Go Go.Avm Go.Bvm
set_option maxRecDepth 100000
set_option linter.unusedVariables false
set_option linter.unusedSimpArgs false
set_option linter.defProp false
noncomputable section
attribute [local irreducible] jn jv br lp ck iff wB wG wRef wSl wCl wAg wTu wStr wFn wIfc wInt wCe wRe wMp wFr ad sb ml lt le eqi nei eq1 isNil un cvt fa len lens ix ixA ixS ixV ld1 ldn sto al bx pt bs ms app cpy sli lkm mup men mst mrg srg snx mnx mtr tas lenm rgT rgE finR mfind mset mput wKey wMa sV sem fin Ho
theorem t_91 (t:Tb)(h:H)(K Pn:KVH)(x0 x1:AV):(compF Tryz.prog (drawsC Tryz.prog) 91).r t [x0,x1] h K Pn=ck true (jn (fun l h=>K (AV.int IntKind.i64 (Int.negSucc 0)) h) fun k=>lp (fun L l h=>e6 l fun x x_1 x_2 x_3 x_4 x_5=>len x_5 fun v=>lt x_2 v fun v=>jn (fun l h=>e5 l fun x x_6 x_7 x_8 x_9=>jn (fun l h=>e6 l fun x x_10 x_11 x_12 x_13 x_14=>ad x_11 (mkI 1) fun v=>L [x,x_10,v,x_12,x_13,x_14] h) fun k=>ix 4 x_9 x_6 fun v=>fa 0 v fun v=>ld1 h v fun v=>eqi v x_8 fun v=>jn k fun k=>wB v (K x_6 h) (k [v,x,x_6,x_7,x_8,x_9] h)) fun k_1=>wB v (k_1 [v,x_2,x_3,x_4,x_5] h) (k [] h)) [AV.any,AV.any,mkI 0,mkI 0,x1,x0] h):=by kernel_rfl
def fndL:List (Int × Tm)→Int→Int→Int
 |[],_,_=> -1
 |b::r,n,i=>if b.1=n then i else fndL r n (i+1)
theorem fndL_nil (n i:Int):fndL [] n i = -1:=by rw[fndL]
theorem fndL_drop {l:List (Int × Tm)}{i:Nat}(h:i<l.length)(n:Int):fndL (l.drop i) n i=if (l.getD i default).1=n then(i:Int) else fndL (l.drop (i+1)) n ((i+1:Nat):Int):=by
 rw[drop_cons h,fndL];rfl
theorem fndL_at:∀(l:List (Int × Tm)) (n i:Int),(fndL l n i = -1∧∀b,b∈l→b.1≠n)∨(i≤fndL l n i∧fndL l n i<i+l.length∧(l.getD (fndL l n i-i).toNat default).1=n)
 |[],n,i=>.inl ⟨fndL_nil n i,fun b hb=>by cases hb⟩
 |b::r,n,i=>by
  rw[fndL,List.length_cons]
  by_cases c:b.1=n
  ·rw[if_pos c]
   refine .inr ⟨Int.le_refl _,by omega,?_⟩
   rw[show(i-i).toNat=0 by omega]
   exact c
  ·rw[if_neg c]
   rcases fndL_at r n (i+1) with⟨h1,h2⟩|⟨h1,h2,h3⟩
   ·refine .inl ⟨h1,fun x hx=>?_⟩
    rcases List.mem_cons.1 hx with rfl|hx
    ·exact c
    ·exact h2 x hx
   ·refine .inr ⟨by omega,by omega,?_⟩
    rw[show(fndL r n (i+1)-i).toNat=(fndL r n (i+1)-(i+1)).toNat+1 by omega]
    exact h3
theorem c_find (k:Fz)(l:List (Int × Tm))(n:Int)(hl:l.length≤1000):Pu Tryz.prog 91 [fzM k 4 cB l,.int .i64 n] (.int .i64 (fndL l n 0)):=by
 refine Pu.of prOk (by kernel_rfl) ⟨trivial,trivial,trivial⟩ ?_
 rw[t_91]
 generalize hR:AV.int .i64 (fndL l n 0)=R
 refine onc sB ?_
 refine ho_lp (fun (i:Nat) v h=>(∃x y z,v=[x,y,.int .i64 i,z,.int .i64 n,fzM k 4 cB l])∧h=h0∧i≤l.length∧fndL l n 0=fndL (l.drop i) n i) (fun i=>l.length-i) 0 ⟨⟨_,_,_,rfl⟩,rfl,Nat.zero_le _,rfl⟩ (by omega) ?_
 rintro i v h L ⟨⟨x,y,z,rfl⟩,rfl,hi,he⟩ ih
 refine onc sB (ho_br (fun c1=>?_) (fun c1=>?_))
 ·rw[fndL_drop (by omega)] at he
  by_cases c2:(l.getD i default).1=n
  ·rw[if_pos c2] at he
   refine onc (And.intro c2 sB) ?_
   rw[←hR,he]
   exact ho_fin (Fzs.of trivial)
  ·rw[if_neg c2] at he
   refine onc (And.intro c2 sB) ?_
   exact ih (i+1) _ _ ⟨⟨_,_,_,rfl⟩,rfl,by omega,he⟩ (by omega)
 ·rw[List.drop_eq_nil_of_le (by omega),fndL_nil] at he
  refine on ?_
  rw[←hR,he]
  exact ho_fin (Fzs.of trivial)
end
end Go.Proofs.YtgmjpmeddajmgaaGreat
namespace Go.Proofs.YtgmjpmeddajmgaaGreat
open Go Go.Avm Go.Bvm
set_option maxRecDepth 100000
set_option linter.unusedVariables false
set_option linter.unusedSimpArgs false
set_option linter.defProp false
noncomputable section
attribute [local irreducible] jn jv br lp ck iff wB wG wRef wSl wCl wAg wTu wStr wFn wIfc wInt wCe wRe wMp wFr ad sb ml lt le eqi nei eq1 isNil un cvt fa len lens ix ixA ixS ixV ld1 ldn sto al bx pt bs ms app cpy sli lkm mup men mst mrg srg snx mnx mtr tas lenm rgT rgE finR mfind mset mput wKey wMa sV sem fin Ho
theorem relB_cp (P:Int→Bool)(t:Tm):relB P (cpT t) t=true:=by
 induction t using Tm.rec' with
 |h t ih=>
 have hk:(cpT t).kids=t.kids.map cpT:=by rw[cpT_eq];rfl
 rw[relB_eq,hk,(relsB_iff (P:=P) (l:=t.kids.map cpT) (u:=t.kids) (List.length_map ..)).2 fun i hi=>?_]
 ·rw[show(cpT t).op=t.op by rw[cpT_eq];rfl,show(cpT t).n=t.n by rw[cpT_eq];rfl,decide_eq_true ⟨rfl,rfl,by rw[List.length_map]⟩,Bool.true_and,Bool.or_true]
 ·rw[List.length_map] at hi
  rw[map_getD hi]
  exact ih _ (getD_mem hi)
theorem appL_relsB {s:Sg}:∀(ps vs:List Tm) (st0:TB),ps.length=vs.length→(∀p,p∈ps→∀v st0,nodesB s v=true→(appT p v st0).2=relB (fun o=>decide (o=1)) p v)→(∀v,v∈vs→nodesB s v=true)→(appL ps vs st0).2=relsB (fun o=>decide (o=1)) ps vs
 |[],vs,st0,_,_,_=>by rw[appL_nil,relsB]
 |p::ps,[],_,h,_,_=>by cases h
 |p::ps,v::vs,st0,h,hp,hv=>by
  rw[appL,relsB,show(v::vs).headD default=v from rfl,show(v::vs).tail=vs from rfl]
  have e:=hp p (List.mem_cons_self ..) v st0 (hv v (List.mem_cons_self ..))
  rw[←e]
  cases hb:(appT p v st0).2 with
  |true=>
   rw[if_pos rfl,Bool.true_and]
   exact appL_relsB ps vs _ (Nat.succ.inj h) (fun q hq=>hp q (List.mem_cons_of_mem _ hq)) (fun x hx=>hv x (List.mem_cons_of_mem _ hx))
  |false=>
   rw[if_neg (by decide),Bool.false_and]
theorem appT_relB {s:Sg}(p:Tm):nodesB s p=true→shapeB p=true→∀v st0,nodesB s v=true→(appT p v st0).2=relB (fun o=>decide (o=1)) p v:=by
 induction p using Tm.rec' with
 |h p ih=>
 intro hp hs v st0 hv
 obtain⟨hp1,hp2⟩:=nodesB_kids hp
 obtain⟨hv1,hv2⟩:=nodesB_kids hv
 obtain⟨hs1,hs2⟩:=shapeB_kids hs
 rw[appT_eq,relB_eq]
 by_cases c:p.op=1
 ·rw[if_pos c,decide_eq_true c,Bool.true_or]
 rw[if_neg c,decide_eq_false c,Bool.false_or]
 by_cases c1:p.op≠v.op∨p.n≠v.n
 ·rw[if_pos c1,decide_eq_false (fun e=>c1.elim (fun h=>h e.1) (fun h=>h e.2.1)),Bool.false_and]
 rw[if_neg c1]
 have c2:p.op=v.op:=Classical.not_not.1 fun h=>c1 (.inl h)
 have c3:p.n=v.n:=Classical.not_not.1 fun h=>c1 (.inr h)
 have h3:p.op=3:=hs1.resolve_left c
 have hlen:(p.kids.length:Int)=v.kids.length:=by rw[con_kids hp1 h3,con_kids hv1 (c2▸h3),c3]
 rw[decide_eq_true ⟨c2,c3,hlen⟩,Bool.true_and]
 exact appL_relsB (s:=s) p.kids v.kids st0 (by omega) (fun q hq v' s' h'=>ih q hq (hp2 q hq) (hs2 q hq) v' s' h') hv2
theorem mB_yesP {p:Pg}{n:Int}{l:List Tm}{i:Int}(hP:progP p)(hv:valuesP p.sig n l)(hi:i∈ofL p.rules 0 n):mB p l i=yesP p l i:=by
 obtain⟨d1,d2,d3⟩:=ofL_mem hi
 rw[Int.sub_zero] at d3
 have hmem:p.rules.getD i.toNat default∈p.rules:=getD_mem (by omega)
 have hR:=hP.f3 _ hmem
 have hlen:(p.rules.getD i.toNat default).pats.length=l.length:=by
  have h1:=hR.f3
  have h2:=hv.f1
  rw[d3] at h1
  omega
 exact appL_relsB (s:=p.sig) _ _ t0 hlen (fun q hq v st0 h=>appT_relB q (pat_hyp hR.f6 q hq).1 (pat_hyp hR.f6 q hq).2 v st0 h) (fun x hx=>(hv.f2 x hx).1.f2)
theorem nodeB_op {s:Sg}{t:Tm}(h:nodeB s t=true):1≤t.op:=by
 unfold nodeB at h
 by_cases c1:t.op=1
 ·omega
 rw[if_neg c1] at h
 by_cases c2:t.op=2
 ·omega
 rw[if_neg c2] at h
 by_cases c3:t.op=3
 ·omega
 rw[if_neg c3] at h
 by_cases c4:t.op=4
 ·omega
 rw[if_neg c4] at h
 by_cases c5:t.op=5
 ·omega
 rw[if_neg c5] at h
 by_cases c8:t.op=8
 ·omega
 rw[if_neg c8] at h
 have:=(of_decide_eq_true h).1
 omega
theorem valT_eq (t:Tm):valT t=(valN t&&t.kids.all valT):=by
 unfold valT
 rw[po_eq,List.all_cons,List.all_flatMap]
theorem valT_vaB {s:Sg}(t:Tm):nodesB s t=true→valT t=vaB t:=by
 induction t using Tm.rec' with
 |h t ih=>
 intro hn
 obtain⟨h1,h2⟩:=nodesB_kids hn
 have h3:=nodeB_op h1
 have hk:t.kids.all valT=t.kids.all vaB:=by
  rw[Bool.eq_iff_iff,List.all_eq_true,List.all_eq_true]
  exact⟨fun h x hx=>(ih x hx (h2 x hx)).symm.trans (h x hx),fun h x hx=>(ih x hx (h2 x hx)).trans (h x hx)⟩
 rw[valT_eq,vaB_eq,vasB_all,hk,Bool.and_comm]
 congr 1
 unfold valN
 rw[←Bool.decide_or]
 exact decide_eq_decide.2 (by omega)
theorem argsR_iff {s:Sg}{n:Int}{l:List Tm}:argsR s n l↔valuesP s n l:=
 ⟨fun h=>⟨h.1,fun t ht=>⟨(h.2 t ht).1,(valT_vaB t (h.2 t ht).1.f2).trans (h.2 t ht).2⟩⟩,
  fun h=>⟨h.f1,fun t ht=>⟨(h.f2 t ht).1,(valT_vaB t (h.f2 t ht).1.f2).symm.trans (h.f2 t ht).2⟩⟩⟩
end
end Go.Proofs.YtgmjpmeddajmgaaGreat
namespace Go.Proofs.YtgmjpmeddajmgaaGreat
open Go Go.Avm Go.Bvm
set_option maxRecDepth 100000
set_option linter.unusedVariables false
set_option linter.unusedSimpArgs false
set_option linter.defProp false
noncomputable section
attribute [local irreducible] jn jv br lp ck iff wB wG wRef wSl wCl wAg wTu wStr wFn wIfc wInt wCe wRe wMp wFr ad sb ml lt le eqi nei eq1 isNil un cvt fa len lens ix ixA ixS ixV ld1 ldn sto al bx pt bs ms app cpy sli lkm mup men mst mrg srg snx mnx mtr tas lenm rgT rgE finR mfind mset mput wKey wMa sV sem fin Ho
theorem t_149 (t:Tb)(h:H)(K Pn:KVH)(x0 x1 x2:AV):(compF Tryz.prog (drawsC Tryz.prog) 149).r t [x0,x1,x2] h K Pn=ck true (bx x2 h fun v h=>jn (fun l h=>e4 l fun x x_1 x_2 x_3=>ldn 3 h x_1 fun v=>pt 0 1 x_2 [mkI 0,mkI 0,mkI 0,AV.fz Fz.nil 0 0 fun _ _=>AV.any] fun cs=>pt 1 3 v cs fun cs=>pt 0 4 (AV.agg 4 (nx cs)) [mkI 0,mkI 0,mkI 0,AV.fz Fz.nil 0 0 fun _ _=>AV.any] fun cs_1=>bs 1 4 4 cs_1 h fun x_4 x_5=>sli 4 false x_3 none (some x) none fun v_1=>app 4 48 (AV.fz Fz.nil 0 0 fun _ _=>AV.any) v_1 h fun v_2 h=>ldn 3 h x_1 fun v_3=>sV v v_3 (pt 0 4 (AV.agg 4 (nx cs)) [mkI 0,mkI 0,mkI 0,AV.fz Fz.nil 0 0 fun _ _=>AV.any] fun cs=>bs 1 4 4 cs h fun v h=>app 4 48 v_2 v h fun v h=>sli 4 false x_3 (some x) none none fun v_4=>app 4 48 v v_4 h fun v h=>K v h)) fun k=>lp (fun L l h=>e6 l fun x x_1 x_2 x_3 x_4 x_5=>len x_5 fun v=>lt x_1 v fun v=>jv (fun v_1 h=>jv (fun v_2 h=>jv (fun v_3 h=>jv (fun v_4 h=>jv (fun v_5 h=>jv (fun v_6 h=>jv (fun v_7 h=>jv (fun v h=>jn (fun l h=>e6 l fun x x_6 x_7 x_8 x_9 x_10=>jn L fun k=>ad x_6 (mkI 1) fun v=>k [x,v,x_7,x_8,x_9,x_10] h) fun k_1=>wB v (k_1 [v,x_1,x_2,x_3,x_4,x_5] h) (k [x_1,x_3,x_4,x_5] h)) fun k=>wB v (k v_7 h) (k (AV.bool false) h)) fun k=>wG true v (lt v_5 v_6 fun v=>k v h) (k skipV h)) fun k=>wG true v (k x_4 h) (k skipV h)) fun k=>wG true v (ld1 h v_4 fun v=>k v h) (k skipV h)) fun k=>wG true v (fa 0 v_3 fun v=>k v h) (k skipV h)) fun k=>wG true v (ix 4 v_1 v_2 fun v=>k v h) (k skipV h)) fun k=>wG true v (k x_1 h) (k skipV h)) fun k=>wG true v (k x_5 h) (k skipV h)) [AV.any,mkI 0,AV.fz Fz.nil 0 0 fun _ _=>AV.any,v,x1,x0] h):=by kernel_rfl
def bdL:List (Int × Tm)→Int→Tm→List (Int × Tm)
 |[],n,t=>[(n,t)]
 |b::r,n,t=>if b.1<n then b::bdL r n t else(n,t)::b::r
theorem bdL_split:∀{l:List (Int × Tm)} {n:Int} {t:Tm} {i:Nat},i≤l.length→(∀x,x∈l.take i→x.1<n)→bdL l n t=l.take i++bdL (l.drop i) n t
 |l,n,t,0,_,_=>by simp
 |[],n,t,i+1,h,_=>absurd h (by simp)
 |x::r,n,t,i+1,h,hm=>by
  show bdL (x::r) n t=x::(r.take i++bdL (r.drop i) n t)
  rw[bdL,if_pos (hm x (by simp)),bdL_split (i:=i) (by simpa using h) (fun y hy=>hm y (by simp[hy]))]
theorem bind_tail {l:List (Int × Tm)}{n:Int}{t:Tm}{i:Nat}{R:AV}(hl:l.length≤1000)(hi:i≤l.length)(hR:R=fzM .auto 4 cB (l.take i++[(n,t)]++l.drop i)):Ho (sli 4 false (fzM .auto 4 cB l) none (some (.int .i64 i)) none fun v_1=>
   Bvm.app 4 48 (.fz .nil 0 0 fun _ _=>.any) v_1 (nw h0 (.cells 3 (cT t))) fun v_2 h=>
    wRe (gt h 0) fun n_1 l_1=>
     ck (Nat.ble 3 n_1)
      (sV (.agg 3 (nx (cT t))) (.agg 3 (nx l_1))
       (Bvm.app 4 48 v_2 (.sl h.n 0 1 1 true 4)
        (nw h (.cells 4 (spl 0 (tb 4 (nx (spl 1 (cT t) [.int .i64 n,.int .i64 0,.int .i64 0,.fz .nil 0 0 fun _ _=>.any]))) [.int .i64 0,.int .i64 0,.int .i64 0,.fz .nil 0 0 fun _ _=>.any])))
        fun v h=>
        sli 4 false (fzM .auto 4 cB l) (some (.int .i64 i)) none none fun v_4=>
         Bvm.app 4 48 v v_4 h fun v h=>fin Tryz.prog R v h))):=by
 have hk:(l.take i).length=i:=by rw[List.length_take];omega
 have hr:(l.drop i).length=l.length-i:=List.length_drop
 have c1:=cells_len cB_len (l.take i)
 have c2:=cells_len cB_len (l.drop i)
 have hcb:spl 0 (tb 4 (nx (spl 1 (cT t) [.int .i64 n,.int .i64 0,.int .i64 0,.fz .nil 0 0 fun _ _=>.any]))) [.int .i64 0,.int .i64 0,.int .i64 0,.fz .nil 0 0 fun _ _=>.any]=cB (n,t):=by rw[cB,cT_eq];rfl
 rw[sli_hi hi]
 refine Gr.app (b:=1) Gr.nil (src_hi hi cB_len (by omega) (fun e=>by cases e)) (by cases i with|zero=>exact .inr rfl|succ i=>exact .inl (by omega)) (by rw[c1,hk]) (by omega) (by omega) (Nat.le_refl _) (fun v1 h1 g1 n1 q1=>?_)
 have n1':1≤h1.n:=n1
 have g0:gt h1 0=.cells 3 (cT t):=(q1 0 (by omega)).trans (gt_nw h0 _)
 rw[g0,hcb]
 rw[s_wRe,ck_t (show Nat.ble 3 3=true from rfl),eT_Sv t]
 refine g1.app1 (cB_len _) (by omega) (by omega) n1' (fun v2 h2 g2 n2 _=>?_)
 rw[sli_lo hi]
 refine g2.app (Src.M cB_len (by omega) (fun e=>by cases e)) (by cases hx:l.drop i with|nil=>exact .inr rfl|cons=>exact .inl (by simp)) c2 (by omega) (by omega) (by omega) (fun v3 h3 g3 _ _=>?_)
 subst hR
 refine ho_fin (g3.fz (e:=cB) ?_ (by simp;omega) cB_len (by omega) (fun x _=>cB_below x))
 rw[←cells_app,←cells_one,List.nil_append]
theorem c_bind (l:List (Int × Tm))(n:Int)(t:Tm)(hl:l.length≤1000):Pu Tryz.prog 149 [eB l,.int .i64 n,eT t] (eB (bdL l n t)):=by
 refine Pu.of prOk (by kernel_rfl) ⟨trivial,trivial,eT_below _,trivial⟩ ?_
 rw[t_149]
 unfold eB
 generalize hR:fzM .auto 4 cB (bdL l n t)=R
 refine onc sB ?_
 refine ho_lp (fun (i:Nat) v h=>(∃a b,v=[a,.int .i64 i,b,.ref 0 0,.int .i64 n,fzM .auto 4 cB l])∧h=nw h0 (.cells 3 (cT t))∧i≤l.length∧∀x,x∈l.take i→x.1<n) (fun i=>l.length-i) 0 ⟨⟨_,_,rfl⟩,rfl,Nat.zero_le _,fun x hx=>by cases hx⟩ (by omega) ?_
 rintro i v h L ⟨⟨a,b,rfl⟩,rfl,hi,hm⟩ ih
 by_cases c:(i:Int)<l.length∧(l.getD i default).1<n
 ·obtain⟨c1,c2⟩:=c
  refine onc (And.intro c1 <| And.intro c2 sB) ?_
  exact ih (i+1) _ _ ⟨⟨_,_,rfl⟩,rfl,by omega,all_snoc (Q:=fun x:Int × Tm=>x.1<n) (by omega) hm c2⟩ (by omega)
 have new:bdL l n t=l.take i++[(n,t)]++l.drop i:=by
  rw[bdL_split hi hm]
  rcases Nat.lt_or_ge i l.length with h|h
  ·rw[drop_cons h,bdL,if_neg (fun e=>c ⟨by omega,e⟩),List.append_assoc];rfl
  ·rw[List.drop_eq_nil_of_le h,bdL,List.append_nil]
 by_cases c1:(i:Int)<l.length
 ·have c2:¬(l.getD i default).1<n:=fun e=>c ⟨c1,e⟩
  refine onc (And.intro c1 <| And.intro c2 sB) ?_
  exact bind_tail hl hi (by rw[←hR,new])
 ·refine onc (And.intro c1 sB) ?_
  exact bind_tail hl hi (by rw[←hR,new])
end
end Go.Proofs.YtgmjpmeddajmgaaGreat
namespace Go.Proofs.YtgmjpmeddajmgaaGreat
open Go Go.Avm Go.Bvm
set_option maxRecDepth 100000
set_option linter.unusedVariables false
set_option linter.unusedSimpArgs false
set_option linter.defProp false
noncomputable section
attribute [local irreducible] jn jv br lp ck iff wB wG wRef wSl wCl wAg wTu wStr wFn wIfc wInt wCe wRe wMp wFr ad sb ml lt le eqi nei eq1 isNil un cvt fa len lens ix ixA ixS ixV ld1 ldn sto al bx pt bs ms app cpy sli lkm mup men mst mrg srg snx mnx mtr tas lenm rgT rgE finR mfind mset mput wKey wMa sV sem fin Ho
theorem t_23 (t:Tb)(h:H)(K Pn:KVH)(x0:AV):(compF Tryz.prog (drawsC Tryz.prog) 23).r t [x0] h K Pn=ck true ((t.C 68).r [x0] h (fun v h=>K v h) Pn):=by kernel_rfl
theorem c_SmallTerms5 (k:Fz)(l:List Tm):Pu Tryz.prog 23 [eTs k l] (.bool (decide (smallTs l))):=by
 refine Pu.of prOk (by kernel_rfl) ⟨trivial,trivial⟩ ?_
 rw[t_23]
 refine on ?_
 refine(c_SmallTerms k l).call ?_
 exact ho_fin (Fzs.of trivial)
abbrev BB:=List (Int × Tm) × Bool
mutual
def matT:Tm→Tm→List (Int × Tm)→BB
 |.mk o n _ l,v,s=>if o=1 then(if 0≤fndL s n 0 then(s,relB (fun _=>false) (s.getD (fndL s n 0).toNat default).2 v) else(bdL s n v,true)) else if o=v.op∧n=v.n∧(l.length:Int)=v.kids.length then matL5 l v.kids s else([],false)
def matL5:List Tm→List Tm→List (Int × Tm)→BB
 |[],_,s=>(s,true)
 |p::r,vs,s=>if (matT p (vs.headD default) s).2=true then matL5 r vs.tail (matT p (vs.headD default) s).1 else((matT p (vs.headD default) s).1,false)
end
theorem matT_eq (p v:Tm)(s:List (Int × Tm)):matT p v s=if p.op=1 then(if 0≤fndL s p.n 0 then(s,relB (fun _=>false) (s.getD (fndL s p.n 0).toNat default).2 v) else(bdL s p.n v,true)) else if p.op=v.op∧p.n=v.n∧(p.kids.length:Int)=v.kids.length then matL5 p.kids v.kids s else([],false):=by cases p;rw[matT];rfl
theorem matL5_nil (vs:List Tm)(s:List (Int × Tm)):matL5 [] vs s=(s,true):=by rw[matL5]
theorem matL5_drop {ps vs:List Tm}{i:Nat}(h1:i<ps.length)(h2:i<vs.length)(s:List (Int × Tm)):matL5 (ps.drop i) (vs.drop i) s=if (matT (ps.getD i default) (vs.getD i default) s).2=true then matL5 (ps.drop (i+1)) (vs.drop (i+1)) (matT (ps.getD i default) (vs.getD i default) s).1 else((matT (ps.getD i default) (vs.getD i default) s).1,false):=by
 rw[drop_cons h1,drop_cons h2,matL5];rfl
theorem bdL_len:∀(l:List (Int × Tm)) (n:Int) (t:Tm),(bdL l n t).length=l.length+1
 |[],n,t=>by rw[bdL];rfl
 |b::r,n,t=>by
  have:=bdL_len r n t
  rw[bdL]
  split
  ·rw[List.length_cons,this,List.length_cons]
  ·rw[List.length_cons,List.length_cons]
theorem matL5_len:∀(ps vs:List Tm) (s:List (Int × Tm)),(∀p,p∈ps→∀v s,(matT p v s).1.length≤s.length+(po p).length)→(matL5 ps vs s).1.length≤s.length+(ps.flatMap po).length
 |[],vs,s,_=>by rw[matL5_nil];exact Nat.le_add_right _ _
 |p::ps,vs,s,h=>by
  have h1:=h p (List.mem_cons_self ..) (vs.headD default) s
  have h2:=matL5_len ps vs.tail (matT p (vs.headD default) s).1 fun q hq=>h q (List.mem_cons_of_mem _ hq)
  rw[matL5,List.flatMap_cons,List.length_append]
  split
  ·omega
  ·show(matT p (vs.headD default) s).1.length≤_
   omega
theorem matT_len (p:Tm):∀(v:Tm) (s:List (Int × Tm)),(matT p v s).1.length≤s.length+(po p).length:=by
 induction p using Tm.rec' with
 |h p ih=>
 intro v s
 rw[matT_eq,po_eq,List.length_cons]
 split
 ·split
  ·show s.length≤_;omega
  ·show(bdL s p.n v).length≤_
   rw[bdL_len];omega
 ·split
  ·have:=matL5_len p.kids v.kids s ih
   omega
  ·exact Nat.zero_le _
theorem bdL_mem:∀{l:List (Int × Tm)} {n:Int} {t:Tm} {b:Int × Tm},b∈bdL l n t→b=(n,t)∨b∈l
 |[],n,t,b,h=>by rw[bdL] at h;exact .inl (List.mem_singleton.1 h)
 |x::r,n,t,b,h=>by
  rw[bdL] at h
  split at h
  ·rcases List.mem_cons.1 h with rfl|h
   ·exact .inr (List.mem_cons_self ..)
   ·exact(bdL_mem h).imp_right (List.mem_cons_of_mem _)
  ·rcases List.mem_cons.1 h with rfl|h
   ·exact .inl rfl
   ·exact .inr h
theorem matL5_sub {Q:Tm→Prop}(hd:Q default):∀(ps vs:List Tm) (s:List (Int × Tm)),(∀p,p∈ps→∀v s,Q v→(∀b,b∈s→Q b.2)→∀b,b∈(matT p v s).1→Q b.2)→(∀v,v∈vs→Q v)→(∀b,b∈s→Q b.2)→∀b,b∈(matL5 ps vs s).1→Q b.2
 |[],vs,s,_,_,hs=>by rw[matL5_nil];exact hs
 |p::ps,vs,s,h,hv,hs=>by
  have hh:Q (vs.headD default):=by
   cases vs with
   |nil=>exact hd
   |cons b vs=>exact hv _ (List.mem_cons_self ..)
  have h1:=h p (List.mem_cons_self ..) (vs.headD default) s hh hs
  rw[matL5]
  split
  ·exact matL5_sub hd ps vs.tail _ (fun q hq=>h q (List.mem_cons_of_mem _ hq)) (fun x hx=>hv x (List.mem_of_mem_tail hx)) h1
  ·exact h1
theorem matT_sub {Q:Tm→Prop}(hd:Q default)(hk:∀t,Q t→∀k,k∈t.kids→Q k)(p:Tm):∀(v:Tm) (s:List (Int × Tm)),Q v→(∀b,b∈s→Q b.2)→∀b,b∈(matT p v s).1→Q b.2:=by
 induction p using Tm.rec' with
 |h p ih=>
 intro v s hv hs
 rw[matT_eq]
 split
 ·split
  ·exact hs
  ·intro b hb
   rcases bdL_mem hb with rfl|hb
   ·exact hv
   ·exact hs b hb
 ·split
  ·exact matL5_sub hd p.kids v.kids s ih (hk v hv) hs
  ·intro b hb;cases hb
end
end Go.Proofs.YtgmjpmeddajmgaaGreat
namespace Go.Proofs.YtgmjpmeddajmgaaGreat
open Go Go.Avm Go.Bvm
set_option maxRecDepth 100000
set_option linter.unusedVariables false
set_option linter.unusedSimpArgs false
set_option linter.defProp false
noncomputable section
attribute [local irreducible] jn jv br lp ck iff wB wG wRef wSl wCl wAg wTu wStr wFn wIfc wInt wCe wRe wMp wFr ad sb ml lt le eqi nei eq1 isNil un cvt fa len lens ix ixA ixS ixV ld1 ldn sto al bx pt bs ms app cpy sli lkm mup men mst mrg srg snx mnx mtr tas lenm rgT rgE finR mfind mset mput wKey wMa sV sem fin Ho
theorem t_94 (t:Tb)(h:H)(K Pn:KVH)(x0 x1 x2:AV):(compF Tryz.prog (drawsC Tryz.prog) 94).r t [x0,x1,x2] h K Pn=ck true (bx x0 h fun v h=>bx x1 h fun v_1 h=>fa 0 v fun v_2=>ld1 h v_2 fun v_3=>eqi v_3 (mkI 1) fun v_4=>jn (fun l h=>e6 l fun x x_1 x_2 x_3 x_4 x_5=>fa 0 x_4 fun v=>ld1 h v fun v=>fa 0 x_3 fun v_5=>ld1 h v_5 fun v_6=>nei v v_6 fun v=>jv (fun v_7 h=>jv (fun v_8 h=>jv (fun v_9 h=>jv (fun v_10 h=>jv (fun v_11 h=>jv (fun v h=>jv (fun v_12 h=>jv (fun v_13 h=>jv (fun v_14 h=>jv (fun v_15 h=>jv (fun v_16 h=>jv (fun v_17 h=>jv (fun v_18 h=>jv (fun v h=>jn (fun l h=>e6 l fun x x_6 x_7 x_8 x_9 x_10=>jn (fun l h=>e2 l fun x x_11=>K (AV.tup 2 (nx [x_11,x])) h) fun k=>lp (fun L l h=>e8 l fun x x_11 x_12 x_13 x_14 x_15 x_16 x_17=>fa 2 x_16 fun v=>ld1 h v fun v=>len v fun v=>lt x_11 v fun v=>jv (fun v_19 h=>jv (fun v h=>jn (fun l h=>e7 l fun x x_18 x_19 x_20 x_21 x_22 x_23=>jn (fun l h=>e8 l fun x x_24 x_25 x_26 x_27 x_28 x_29 x_30=>ad x_24 (mkI 1) fun v=>L [x,v,x_25,x_26,x_27,x_28,x_29,x_30] h) fun k=>fa 2 x_21 fun v=>ld1 h v fun v=>ix 3 v x_18 fun v=>ldn 3 h v fun v=>fa 2 x_22 fun v_20=>ld1 h v_20 fun v_21=>ix 3 v_21 x_18 fun v_22=>ldn 3 h v_22 fun v_23=>(t.C 94).r [v_23,v,x_23] h (fun v h=>wTu v fun n g=>ck (Nat.ble 2 n) (wTu v fun n g_1=>ck (Nat.ble 1 n) (k [x,x_18,g 1,x_19,x_20,x_21,x_22,g_1 0] h))) Pn) fun k_1=>wB v (k_1 [v,x_11,x_13,x_14,x_15,x_16,x_17] h) (k [x_12,x_17] h)) fun k=>wB v (k v_19 h) (k (AV.bool false) h)) fun k=>wG true v (k x_12 h) (k skipV h)) [x,mkI 0,AV.bool true,x_6,x_7,x_8,x_9,x_10] h) fun k=>wB v (K (AV.tup 2 (nx [AV.fz Fz.nil 0 0 fun _ _=>AV.any,AV.bool false])) h) (k [x,x_1,x_2,x_3,x_4,x_5] h)) fun k=>wB v (k (AV.bool true) h) (k v_18 h)) fun k=>wG false v (nei v_14 v_17 fun v=>k v h) (k skipV h)) fun k=>wG false v (len v_16 fun v=>k v h) (k skipV h)) fun k=>wG false v (ld1 h v_15 fun v=>k v h) (k skipV h)) fun k=>wG false v (fa 2 x_3 fun v=>k v h) (k skipV h)) fun k=>wG false v (len v_13 fun v=>k v h) (k skipV h)) fun k=>wG false v (ld1 h v_12 fun v=>k v h) (k skipV h)) fun k=>wG false v (fa 2 x_4 fun v=>k v h) (k skipV h)) fun k=>wB v (k (AV.bool true) h) (k v_11 h)) fun k=>wG false v (nei v_8 v_10 fun v=>k v h) (k skipV h)) fun k=>wG false v (ld1 h v_9 fun v=>k v h) (k skipV h)) fun k=>wG false v (fa 1 x_3 fun v=>k v h) (k skipV h)) fun k=>wG false v (ld1 h v_7 fun v=>k v h) (k skipV h)) fun k=>wG false v (fa 1 x_4 fun v=>k v h) (k skipV h)) fun k=>wB v_4 (fa 1 v fun v_5=>ld1 h v_5 fun v_6=>(t.C 91).r [x2,v_6] h (fun v_7 h=>le (mkI 0) v_7 fun v_8=>jn (fun l h=>e3 l fun x x_1 x_2=>fa 1 x_1 fun v=>ld1 h v fun v=>ldn 3 h x fun v_9=>(t.C 149).r [x_2,v,v_9] h (fun v h=>K (AV.tup 2 (nx [v,AV.bool true])) h) Pn) fun k=>wB v_8 (ldn 3 h v_1 fun v=>ix 4 x2 v_7 fun v_9=>fa 1 v_9 fun v_10=>ldn 3 h v_10 fun v_11=>(t.C 41).r [v_11,v] h (fun v h=>K (AV.tup 2 (nx [x2,v])) h) Pn) (k [v_1,v,x2] h)) Pn) (k [AV.any,AV.bool false,AV.fz Fz.nil 0 0 fun _ _=>AV.any,v_1,v,x2] h)):=by kernel_rfl
theorem c_matched (p:Tm):∀(v:Tm) (l:List (Int × Tm)),Few p→Few v→(∀b,b∈l→Few b.2)→l.length+(po p).length≤1000→Pu Tryz.prog 94 [eT p,eT v,eB l] (.tup 2 (nx [eB (matT p v l).1,.bool (matT p v l).2])):=by
 induction p using Tm.rec' with
 |h p ih=>
 intro v l hp hv hs hlen
 have hk:=hp.kids
 have hvk:=hv.kids
 refine Pu.of prOk (by kernel_rfl) ⟨eT_below _,eT_below _,trivial,trivial⟩ ?_
 rw[t_94,matT_eq]
 rw[po_eq,List.length_cons] at hlen
 by_cases c:p.op=1
 ·rw[if_pos c]
  generalize hR:AV.tup 2 (nx [eB (if 0≤fndL l p.n 0 then(l,relB (fun _=>false) (l.getD (fndL l p.n 0).toNat default).2 v) else(bdL l p.n v,true)).1,.bool (if 0≤fndL l p.n 0 then(l,relB (fun _=>false) (l.getD (fndL l p.n 0).toNat default).2 v) else(bdL l p.n v,true)).2])=R
  refine onc (And.intro c sB) ?_
  refine(c_find .auto l p.n (by omega)).call ?_
  rcases fndL_at l p.n 0 with⟨h1,h2⟩|⟨h1,h2,h3⟩
  ·rw[h1] at hR ⊢
   refine onc sB ?_
   refine(c_bind l p.n v (by omega)).call ?_
   rw[if_neg (by omega)] at hR
   refine on ?_
   rw[←hR]
   exact ho_fin (Fzs.tup fun j hj=>match j,hj with|0,_=>Fzs.of trivial|1,_=>Fzs.of trivial)
  ·rw[if_pos h1] at hR
   generalize fndL l p.n 0=i at h1 h2 h3 hR
   rw[Int.zero_add] at h2
   have hix:∀K,ix 4 (eB l) (.int .i64 i) K=K (.fp 4 (nx (cB (l.getD i.toNat default)))):=fun _=>s_ixM (es:=4) (k:=.auto) (e:=cB) (ls:=l) h1 h2
   refine onc (And.intro h1 <| And.intro hix sB) ?_
   refine(c_Same _ _ (hs _ (getD_mem (i:=i.toNat) (by omega)))).call ?_
   refine on ?_
   rw[←hR,dB]
   exact ho_fin (Fzs.tup fun j hj=>match j,hj with|0,_=>Fzs.of trivial|1,_=>Fzs.of trivial)
 rw[if_neg c]
 by_cases c0:p.op=v.op∧p.n=v.n∧(p.kids.length:Int)=v.kids.length
 case neg=>
  rw[if_neg c0]
  have bad:∀h,Ho (fin Tryz.prog (.tup 2 (nx [eB [],.bool false])) (.tup 2 (nx [.fz .nil 0 0 fun _ _=>.any,.bool false])) h):=fun h=>ho_fin (Fzs.tup fun j hj=>match j,hj with|0,_=>fun _=>(FzTo.below (v:=.fz .nil 0 0 fun _ _=>.any) trivial).le (fun FM ρ w hw=>Le.nil_auto _ _ _ hw)|1,_=>Fzs.of trivial)
  by_cases c1:p.op=v.op
  ·by_cases c2:p.n=v.n
   ·have c3:¬(p.kids.length:Int)=v.kids.length:=fun e=>c0 ⟨c1,c2,e⟩
    refine onc (And.intro c <| And.intro (show ¬v.op=1 from fun e=>c (c1.trans e)) <| And.intro c1 <| And.intro c2 <| And.intro c3 sB) ?_
    exact bad _
   ·refine onc (And.intro c <| And.intro (show ¬v.op=1 from fun e=>c (c1.trans e)) <| And.intro c1 <| And.intro c2 sB) ?_
    exact bad _
  ·refine onc (And.intro c <| And.intro c1 sB) ?_
   exact bad _
 rw[if_pos c0]
 obtain⟨c1,c2,c3⟩:=c0
 generalize hR:AV.tup 2 (nx [eB (matL5 p.kids v.kids l).1,.bool (matL5 p.kids v.kids l).2])=R
 refine onc (And.intro c <| And.intro (show ¬v.op=1 from fun e=>c (c1.trans e)) <| And.intro c1 <| And.intro c2 <| And.intro c3 sB) ?_
 refine ho_lp (fun (x:Nat × BB) y h=>(∃a c d,y=[a,.int .i64 x.1,.bool x.2.2,c,d,.ref 1 0,.ref 0 0,eB x.2.1])∧h=nw (nw h0 (.cells 3 (cT p))) (.cells 3 (cT v))∧x.1≤p.kids.length∧x.2.1.length+((p.kids.drop x.1).flatMap po).length≤1000∧(∀b,b∈x.2.1→Few b.2)∧matL5 p.kids v.kids l=if x.2.2=true then matL5 (p.kids.drop x.1) (v.kids.drop x.1) x.2.1 else x.2) (fun x=>p.kids.length-x.1) (0,l,true) ⟨⟨_,_,_,rfl⟩,rfl,Nat.zero_le _,by show l.length+(p.kids.flatMap po).length≤1000;omega,hs,rfl⟩ (by show p.kids.length-0<_;omega) ?_
 rintro ⟨i,s,ok⟩ y h L ⟨⟨a,c',d,rfl⟩,rfl,hi,hn,hf,he⟩ ih'
 simp only at hi hn hf he
 have done:matL5 p.kids v.kids l=(s,ok)→∀h,Ho (fin Tryz.prog R (.tup 2 (nx [eB s,.bool ok])) h):=fun e h=>by
  rw[←hR,e]
  exact ho_fin (Fzs.tup fun j hj=>match j,hj with|0,_=>Fzs.of trivial|1,_=>Fzs.of trivial)
 by_cases c4:(i:Int)<p.kids.length
 case neg=>
  rw[List.drop_eq_nil_of_le (by omega),matL5_nil] at he
  have c4':¬(i:Int)<v.kids.length:=by omega
  refine onc (And.intro c4 <| And.intro c4' sB) ?_
  exact done (by cases ok <;> exact he) _
 have c4':(i:Int)<v.kids.length:=by omega
 cases ok with
 |false=>
  refine onc (And.intro c4 <| And.intro c4' sB) ?_
  exact done he _
 |true=>
  rw[if_pos rfl,matL5_drop (by omega) (by omega)] at he
  rw[drop_cons (l:=p.kids) (i:=i) (by omega),List.flatMap_cons,List.length_append] at hn
  refine onc (And.intro c4 <| And.intro c4' sB) ?_
  have hm1:p.kids.getD i default∈p.kids:=getD_mem (by omega)
  have hm2:v.kids.getD i default∈v.kids:=getD_mem (by omega)
  refine(ih _ hm1 (v.kids.getD i default) s (hk.2 _ hm1) (hvk.2 _ hm2) hf (by omega)).call ?_
  refine on ?_
  have hl2:=matT_len (p.kids.getD i default) (v.kids.getD i default) s
  refine ih' (i+1,matT (p.kids.getD i default) (v.kids.getD i default) s) _ _ ⟨⟨_,_,_,rfl⟩,rfl,by show i+1≤_;omega,by show(matT _ _ s).1.length+((p.kids.drop (i+1)).flatMap po).length≤1000;omega,matT_sub few_dflt.1 (fun t ht k hk=>ht.kids.2 k hk) _ _ _ (hvk.2 _ hm2) hf,?_⟩ (by show p.kids.length-(i+1)<p.kids.length-i;omega)
  rw[he]
  cases hb:(matT (p.kids.getD i default) (v.kids.getD i default) s).2 with
  |true=>rfl
  |false=>
   rw[if_neg (by decide),if_neg (by decide),←hb]
end
end Go.Proofs.YtgmjpmeddajmgaaGreat
namespace Go.Proofs.YtgmjpmeddajmgaaGreat
open Go Go.Avm Go.Bvm
set_option maxRecDepth 100000
set_option linter.unusedVariables false
set_option linter.unusedSimpArgs false
set_option linter.defProp false
noncomputable section
attribute [local irreducible] jn jv br lp ck iff wB wG wRef wSl wCl wAg wTu wStr wFn wIfc wInt wCe wRe wMp wFr ad sb ml lt le eqi nei eq1 isNil un cvt fa len lens ix ixA ixS ixV ld1 ldn sto al bx pt bs ms app cpy sli lkm mup men mst mrg srg snx mnx mtr tas lenm rgT rgE finR mfind mset mput wKey wMa sV sem fin Ho
theorem t_44 (t:Tb)(h:H)(K Pn:KVH)(x0 x1:AV):(compF Tryz.prog (drawsC Tryz.prog) 44).r t [x0,x1] h K Pn=ck true (bx x0 h fun v h=>bx x1 h fun v_1 h=>ldn 3 h v fun v=>ldn 3 h v_1 fun v_2=>(t.C 94).r [v,v_2,AV.fz Fz.nil 0 0 fun _ _=>AV.any] h (fun v h=>wTu v fun n g=>ck (Nat.ble 1 n) (wTu v fun n g_1=>ck (Nat.ble 2 n) (K (AV.tup 2 (nx [g 0,g_1 1])) h))) Pn):=by kernel_rfl
theorem t_30 (t:Tb)(h:H)(K Pn:KVH)(x0 x1:AV):(compF Tryz.prog (drawsC Tryz.prog) 30).r t [x0,x1] h K Pn=ck true (bx x0 h fun v h=>fa 1 v fun v=>ld1 h v fun v=>(t.C 78).r [v] h (fun v h=>(t.C 78).r [x1] h (fun v_1 h=>(t.C 44).r [v,v_1] h (fun v h=>wTu v fun n g=>ck (Nat.ble 1 n) (wTu v fun n g_1=>ck (Nat.ble 2 n) (K (AV.tup 2 (nx [g 0,g_1 1])) h))) Pn) Pn) Pn):=by kernel_rfl
theorem c_MatchT (p v:Tm)(hp:Few p)(hv:Few v):Pu Tryz.prog 44 [eT p,eT v] (.tup 2 (nx [eB (matT p v []).1,.bool (matT p v []).2])):=by
 refine Pu.of prOk (by kernel_rfl) ⟨eT_below _,eT_below _,trivial⟩ ?_
 rw[t_44]
 have hlen:=po_len hp
 refine onc sB ?_
 refine(c_matched p v [] hp hv (fun b hb=>by cases hb) (by show 0+_≤1000;omega)).le (LeL.same (LeL.same (LeL.cons (fun FM ρ w hw=>Le.nil_auto _ _ _ hw) LeL.nil))) ?_
 refine on ?_
 exact ho_fin (Fzs.tup fun j hj=>match j,hj with|0,_=>Fzs.of trivial|1,_=>Fzs.of trivial)
theorem c_Apply5 (r:Rl)(k:Fz)(l:List Tm)(h1:Few (.mk 0 0 r.pk r.pats))(h2:Few (.mk 0 0 k l)):Pu Tryz.prog 30 [eR r,eTs k l] (.tup 2 (nx [eB (matT (.mk 0 0 r.pk r.pats) (.mk 0 0 k l) []).1,.bool (matT (.mk 0 0 r.pk r.pats) (.mk 0 0 k l) []).2])):=by
 refine Pu.of prOk (by kernel_rfl) ⟨eR_below _,trivial,trivial⟩ ?_
 rw[t_30]
 refine onc sP ?_
 refine(c_whole5 r.pk r.pats).call ?_
 refine on ?_
 refine(c_whole5 k l).call ?_
 refine on ?_
 refine(c_MatchT _ _ h1 h2).call ?_
 refine on ?_
 exact ho_fin (Fzs.tup fun j hj=>match j,hj with|0,_=>Fzs.of trivial|1,_=>Fzs.of trivial)
end
end Go.Proofs.YtgmjpmeddajmgaaGreat
namespace Go.Proofs.YtgmjpmeddajmgaaGreat
open Go Go.Avm Go.Bvm
set_option maxRecDepth 100000
set_option linter.unusedVariables false
set_option linter.unusedSimpArgs false
set_option linter.defProp false
noncomputable section
attribute [local irreducible] jn jv br lp ck iff wB wG wRef wSl wCl wAg wTu wStr wFn wIfc wInt wCe wRe wMp wFr ad sb ml lt le eqi nei eq1 isNil un cvt fa len lens ix ixA ixS ixV ld1 ldn sto al bx pt bs ms app cpy sli lkm mup men mst mrg srg snx mnx mtr tas lenm rgT rgE finR mfind mset mput wKey wMa sV sem fin Ho
theorem rea_termOB (B:Nat):ReaB B Tryz.prog 57 3 okT (fun t=>nx (cT t))∧ReaB (B+1) Tryz.prog 57 3 okT (fun t=>nx (cT t)):=by
 induction B with
 |zero=>
  refine⟨fun _ _ _ _ _ _ h=>absurd h (by omega),fun H en W fuel cs x hf hx=>?_⟩
  obtain⟨_,m,h,_⟩:=DataW.trod_struct Tryz.underlying57 hx
  omega
 |succ B ih=>
  refine⟨ih.2,?_⟩
  have hs:=rdB_slice Tryz.underlying45 (by kernel_rfl) (by omega) ih.1
  have h:=rdB_struct (n:=3) Tryz.underlying57 (by kernel_rfl) (rdFB_cons rfl (m:=1) (by kernel_rfl) (rd_int Tryz.underlying55).toB (rdFB_cons rfl (m:=1) (by kernel_rfl) (rd_int Tryz.underlying3).toB (rdFB_cons rfl (m:=1) (by kernel_rfl) hs rdFB_nil)))
  refine h.map tmOf (fun x hx=>(allN'_eq (Q:=fun x:Tm=>okk x.k x.kids)).2 ⟨hx.2.2.1.2,fun k hk=>hx.2.2.1.1.1 k hk⟩) (fun x=>lt3 ?_ ?_ ?_)
  ·rw[cT0];exact Le.refl _
  ·rw[cT1];exact Le.refl _
  ·rw[cT2];exact le_fzM (enc:=fun t=>nx (cT t)) fun _ _ _=>rfl
theorem rea_termsO:Rea Tryz.prog 45 1 (fun x:Fz × List Tm=>∀t,t∈x.2→okT t) (fun x _=>eTs x.1 x.2):=
 Rea.mapL (rd_slice Tryz.underlying45 (by kernel_rfl) (by omega) (.ofB fun B=>(rea_termOB B).1)) id (fun _ h=>h.1) (fun x j hj=>le_fzM (enc:=fun t=>nx (cT t)) fun _ _ _=>rfl)
theorem arg_termsO:Arg Tryz.prog 45 (fun x:Fz × List Tm=>∀t,t∈x.2→okT t) (fun x=>eTs x.1 x.2):=arg_slice Tryz.underlying45 rea_termsO
end
end Go.Proofs.YtgmjpmeddajmgaaGreat
namespace Go.Proofs.YtgmjpmeddajmgaaGreat
open Go Go.Avm Go.Bvm
set_option maxRecDepth 100000
set_option linter.unusedVariables false
set_option linter.unusedSimpArgs false
set_option linter.defProp false
noncomputable section
attribute [local irreducible] jn jv br lp ck iff wB wG wRef wSl wCl wAg wTu wStr wFn wIfc wInt wCe wRe wMp wFr ad sb ml lt le eqi nei eq1 isNil un cvt fa len lens ix ixA ixS ixV ld1 ldn sto al bx pt bs ms app cpy sli lkm mup men mst mrg srg snx mnx mtr tas lenm rgT rgE finR mfind mset mput wKey wMa sV sem fin Ho
theorem weigh_cp (t:Tm):∀left d:Int,weigh (cpT t) left d=weigh t left d:=by
 induction t using Tm.rec' with
 |h t ih=>
 intro left d
 have key:∀(l:List Tm),(∀x,x∈l→x∈t.kids)→∀left d:Int,weighs (l.map cpT) left d=weighs l left d:=by
  intro l
  induction l with
  |nil=>intro _ left d;rfl
  |cons a l ihl=>
   intro h left d
   rw[List.map_cons,weighs_cons,weighs_cons,ih a (h a (List.mem_cons_self ..)),ihl fun x hx=>h x (List.mem_cons_of_mem _ hx)]
 rw[weigh_eq,weigh_eq,cpT_eq]
 rw[show(Tm.mk t.op t.n .may (t.kids.map cpT)).kids=t.kids.map cpT from rfl,key t.kids fun _ h=>h]
theorem pre_len {l:List Tm}{e:Int}{k:Tm}(h:k∈l):(pre k e).length≤(l.flatMap fun x=>pre x e).length:=by
 induction l with
 |nil=>cases h
 |cons a l ih=>
  rw[List.flatMap_cons,List.length_append]
  rcases List.mem_cons.1 h with rfl|h
  ·omega
  ·have:=ih h;omega
theorem small_kids {t k:Tm}(h:small t)(hk:k∈t.kids):small k:=by
 unfold small at *
 rw[weigh_pre t 50 14 1 (by omega)] at h
 rw[weigh_pre k 50 14 2 (by omega)]
 by_cases c:((pre t 1).length:Int)≤50∧∀x,x∈pre t 1→x.2<1+14
 ·obtain⟨c1,c2⟩:=c
  have e:pre t 1=(t,1)::t.kids.flatMap fun k=>pre k 2:=pre_eq t 1
  rw[e] at c1 c2
  have hl:=pre_len (e:=2) hk
  rw[List.length_cons] at c1
  rw[if_pos ⟨by omega,fun x hx=>by have:=c2 x (List.mem_cons_of_mem _ (List.mem_flatMap.2 ⟨k,hk,hx⟩));omega⟩]
  omega
 ·rw[if_neg c] at h
  omega
def bV (s:TB)(i:Nat):List (Int × Tm):=((List.range i).filter fun j:Nat=>decide ((j:Int)∈s.1)).map fun j:Nat=>((j:Int),s.2 j)
theorem bV_step (s:TB)(i:Nat):bV s (i+1)=if (i:Int)∈s.1 then bV s i++[((i:Int),s.2 i)] else bV s i:=by
 unfold bV
 rw[List.range_succ,List.filter_append,List.map_append]
 by_cases c:(i:Int)∈s.1
 ·rw[if_pos c,List.filter_cons,if_pos (decide_eq_true c)];rfl
 ·rw[if_neg c,List.filter_cons,if_neg (by rw[decide_eq_false c];decide)];exact List.append_nil _
theorem bU_bV (s:TB)(i:Nat):bU s i=(bV s i).map fun b=>(b.1,cpT b.2):=by
 unfold bU bV
 rw[List.map_map]
 rfl
theorem bV_mem {s:TB}{i:Nat}{b:Int × Tm}(h:b∈bV s i):b.1∈s.1∧b.1<i∧b.2=s.2 b.1:=by
 obtain⟨j,hj,rfl⟩:=List.mem_map.1 h
 obtain⟨h1,h2⟩:=List.mem_filter.1 hj
 have:=List.mem_range.1 h1
 exact⟨of_decide_eq_true h2,by show(j:Int)<i;omega,rfl⟩
theorem bdL_end {n:Int}{t:Tm}:∀{l:List (Int × Tm)},(∀b,b∈l→b.1<n)→bdL l n t=l++[(n,t)]
 |[],_=>by rw[bdL];rfl
 |b::r,h=>by
  rw[bdL,if_pos (h b (List.mem_cons_self ..)),bdL_end fun x hx=>h x (List.mem_cons_of_mem _ hx)]
  rfl
theorem bdL_app {n:Int}{t:Tm}{x:Int × Tm}(h:¬x.1<n):∀(l:List (Int × Tm)),bdL (l++[x]) n t=bdL l n t++[x]
 |[]=>by
  show bdL [x] n t=bdL [] n t++[x]
  rw[bdL,bdL,if_neg h]
  rfl
 |b::r=>by
  show bdL (b::(r++[x])) n t=bdL (b::r) n t++[x]
  rw[bdL,bdL,bdL_app h r]
  split <;> rfl
theorem bV_put {s:TB}{n:Int}{t:Tm}(hn:n∉s.1)(h0:0≤n):∀i:Nat,(n<i→bdL (bV s i) n t=bV (putT s n t) i)∧((i:Int)≤n→bV (putT s n t) i=bV s i)
 |0=>⟨fun h=>by omega,fun _=>rfl⟩
 |i+1=>by
  obtain⟨h1,h2⟩:=bV_put hn h0 i
  have hm:(i:Int)∈(putT s n t).1↔(i:Int)∈s.1∨(i:Int)=n:=ins_mem
  have hv:¬(i:Int)=n→(putT s n t).2 i=s.2 i:=fun e=>if_neg e
  rw[bV_step,bV_step]
  by_cases e:(i:Int)=n
  ·have hi:(i:Int)∉s.1:=by rw[e];exact hn
   rw[if_neg hi,if_pos (hm.2 (.inr e)),h2 (by omega)]
   refine⟨fun _=>?_,fun h=>by omega⟩
   rw[bdL_end fun b hb=>by have:=(bV_mem hb).2.1;omega,show(putT s n t).2 i=t from if_pos e,e]
  ·by_cases c:(i:Int)∈s.1
   ·rw[if_pos c,if_pos (hm.2 (.inl c)),hv e]
    refine⟨fun h=>?_,fun h=>?_⟩
    ·rw[bdL_app (by show ¬(i:Int)<n;omega),h1 (by omega)]
    ·rw[h2 (by omega)]
   ·rw[if_neg c,if_neg (fun h=>(hm.1 h).elim c e)]
    exact⟨fun h=>h1 (by omega),fun h=>h2 (by omega)⟩
structure BvR (a:TB × Bool)(b:BB)(s:TB)(O:List Int):Prop where
 f1:b.2=a.2
 f2:a.2=true→b.1=bV a.1 20
 f3:a.2=true→∀n,n∈a.1.1→n∈s.1∨n∈O
theorem appL_mat {s:Sg}:∀(ps vs:List Tm) (st0:TB),ps.length=vs.length→(∀p,p∈ps→∀v st0,nodesB s v=true→(occ 1 (po p)).Nodup→(∀n,n∈occ 1 (po p)→n∉st0.1)→BvR (appT p v st0) (matT p v (bV st0 20)) st0 (occ 1 (po p)))→(∀v,v∈vs→nodesB s v=true)→(occ 1 (ps.flatMap po)).Nodup→(∀n,n∈occ 1 (ps.flatMap po)→n∉st0.1)→BvR (appL ps vs st0) (matL5 ps vs (bV st0 20)) st0 (occ 1 (ps.flatMap po))
 |[],vs,st0,_,_,_,_,_=>by rw[appL_nil,matL5_nil];exact⟨rfl,fun _=>rfl,fun _ n h=>.inl h⟩
 |p::ps,[],_,h,_,_,_,_=>by cases h
 |p::ps,v::vs,st0,h,hp,hv,hO,hd=>by
  rw[List.flatMap_cons,occ_app] at hO hd ⊢
  obtain⟨o1,o2,o3⟩:=List.nodup_append.1 hO
  rw[appL,matL5,show(v::vs).headD default=v from rfl,show(v::vs).tail=vs from rfl]
  obtain⟨e1,e2,e3⟩:=hp p (List.mem_cons_self ..) v st0 (hv v (List.mem_cons_self ..)) o1 fun n hn=>hd n (List.mem_append_left _ hn)
  rw[e1]
  cases hb:(appT p v st0).2 with
  |false=>
   rw[if_neg (by decide),if_neg (by decide)]
   exact⟨rfl,fun h=>(by cases h),fun h=>(by cases h)⟩
  |true=>
   rw[if_pos rfl,if_pos rfl,e2 hb]
   obtain⟨g1,g2,g3⟩:=appL_mat ps vs (appT p v st0).1 (Nat.succ.inj h) (fun q hq=>hp q (List.mem_cons_of_mem _ hq)) (fun x hx=>hv x (List.mem_cons_of_mem _ hx)) o2 fun n hn hm=>(e3 hb n hm).elim (hd n (List.mem_append_right _ hn)) fun h1=>o3 n h1 n hn rfl
   refine⟨g1,g2,fun h n hn=>?_⟩
   rcases g3 h n hn with h1|h1
   ·exact(e3 hb n h1).imp_right (List.mem_append_left _)
   ·exact .inr (List.mem_append_right _ h1)
theorem appT_mat {s:Sg}(p:Tm):nodesB s p=true→shapeB p=true→∀v st0,nodesB s v=true→(occ 1 (po p)).Nodup→(∀n,n∈occ 1 (po p)→n∉st0.1)→BvR (appT p v st0) (matT p v (bV st0 20)) st0 (occ 1 (po p)):=by
 induction p using Tm.rec' with
 |h p ih=>
 intro hp hs v st0 hv hO hd
 obtain⟨hp1,hp2⟩:=nodesB_kids hp
 obtain⟨hv1,hv2⟩:=nodesB_kids hv
 obtain⟨hs1,hs2⟩:=shapeB_kids hs
 rw[po_eq,occ_cons] at hO hd ⊢
 rw[appT_eq,matT_eq]
 by_cases c:p.op=1
 ·rw[if_pos c] at hO hd ⊢
  rw[if_pos c,if_pos c]
  obtain⟨n1,n2⟩:=var_n hp1 c
  have hn:p.n∉st0.1:=hd p.n (List.mem_append_left _ (List.mem_singleton.2 rfl))
  have hf:fndL (bV st0 20) p.n 0 = -1:=by
   rcases fndL_at (bV st0 20) p.n 0 with⟨h1,_⟩|⟨h1,h2,h3⟩
   ·exact h1
   ·exfalso
    have:=(bV_mem (getD_mem (l:=bV st0 20) (i:=(fndL (bV st0 20) p.n 0-0).toNat) (by omega))).1
    rw[h3] at this
    exact hn this
  rw[hf,if_neg (by omega)]
  refine⟨rfl,fun _=>(bV_put hn n1 20).1 (by omega),fun _ n h=>?_⟩
  rcases ins_mem.1 h with h|h
  ·exact .inl h
  ·exact .inr (List.mem_append_left _ (List.mem_singleton.2 h))
 rw[if_neg c] at hO hd ⊢
 rw[if_neg c,if_neg c]
 by_cases c1:p.op≠v.op∨p.n≠v.n
 ·rw[if_pos c1,if_neg (fun e=>c1.elim (fun h=>h e.1) (fun h=>h e.2.1))]
  exact⟨rfl,fun h=>(by cases h),fun h=>(by cases h)⟩
 rw[if_neg c1]
 have c2:p.op=v.op:=Classical.not_not.1 fun h=>c1 (.inl h)
 have c3:p.n=v.n:=Classical.not_not.1 fun h=>c1 (.inr h)
 have h3:p.op=3:=hs1.resolve_left c
 have hlen:(p.kids.length:Int)=v.kids.length:=by rw[con_kids hp1 h3,con_kids hv1 (c2▸h3),c3]
 rw[if_pos ⟨c2,c3,hlen⟩]
 exact appL_mat (s:=s) p.kids v.kids st0 (by omega) (fun q hq v' s' h'=>ih q hq (hp2 q hq) (hs2 q hq) v' s' h') hv2 hO hd
theorem bV_t0:∀i:Nat,bV t0 i=[]
 |0=>rfl
 |i+1=>by rw[bV_step,if_neg (by intro h;cases h),bV_t0 i]
theorem ap_mat {p:Pg}{n:Int}{k:Fz}{l:List Tm}(hP:progP p)(h1:0≤n)(h2:n<p.rules.length)(hv:valuesP p.sig (p.rules.getD n.toNat default).fn l):BvR (apT p n l) (matT (.mk 0 0 (p.rules.getD n.toNat default).pk (p.rules.getD n.toNat default).pats) (.mk 0 0 k l) []) t0 (occ 1 ((p.rules.getD n.toNat default).pats.flatMap po)):=by
 have hmem:p.rules.getD n.toNat default∈p.rules:=getD_mem (by omega)
 have hR:=hP.f3 _ hmem
 have hlen:(p.rules.getD n.toNat default).pats.length=l.length:=by
  have h1:=hR.f3
  have h2:=hv.f1
  omega
 rw[matT_eq,if_neg (by show ¬(0:Int)=1;omega),if_pos ⟨rfl,rfl,by show((p.rules.getD n.toNat default).pats.length:Int)=l.length;omega⟩,←bV_t0 20]
 exact appL_mat (s:=p.sig) _ _ t0 hlen (fun q hq v st h=>appT_mat q (pat_hyp hR.f6 q hq).1 (pat_hyp hR.f6 q hq).2 v st h) (fun x hx=>(hv.f2 x hx).1.f2) (nodup_count.2 fun n hn=>(hR.f8 n hn).1) (fun _ _ h=>by cases h)
theorem same_bV (s:TB)(i:Nat):sameBs (bU s i) (bV s i):=by
 rw[bU_bV]
 refine⟨by rw[List.length_map],fun j hj=>?_⟩
 rw[List.length_map] at hj
 rw[map_getD hj]
 exact⟨rfl,relB_cp _ _⟩
theorem bU_small {p:Pg}{n:Int}{l:List Tm}{i:Nat}(hl:smallTs l):∀b,b∈bU (apT p n l).1 i→small b.2:=by
 intro b hb
 rw[bU_bV] at hb
 obtain⟨x,hx,rfl⟩:=List.mem_map.1 hb
 show 0≤weigh (cpT x.2) 50 14
 rw[weigh_cp,(bV_mem hx).2.2]
 exact appL_sub (Q:=small) (by decide) (fun t ht k hk=>small_kids ht hk) _ _ _ hl.f2 (fun _=>by show small default;decide) _
end
end Go.Proofs.YtgmjpmeddajmgaaGreat
namespace Go.Proofs.YtgmjpmeddajmgaaGreat
open Go Go.Avm Go.Bvm
set_option maxRecDepth 100000
set_option linter.unusedVariables false
set_option linter.unusedSimpArgs false
set_option linter.defProp false
noncomputable section
attribute [local irreducible] jn jv br lp ck iff wB wG wRef wSl wCl wAg wTu wStr wFn wIfc wInt wCe wRe wMp wFr ad sb ml lt le eqi nei eq1 isNil un cvt fa len lens ix ixA ixS ixV ld1 ldn sto al bx pt bs ms app cpy sli lkm mup men mst mrg srg snx mnx mtr tas lenm rgT rgE finR mfind mset mput wKey wMa sV sem fin Ho
theorem t_4 (t:Tb)(h:H)(K Pn:KVH)(x0 x1 x2:AV):(compF Tryz.prog (drawsC Tryz.prog) 4).r t [x0,x1,x2] h K Pn=ck true (bx x0 h fun v h=>ldn 3 h v fun v_1=>(t.C 11).r [v_1] h (fun v_2 h=>un v_2 fun v_3=>jv (fun v_4 h=>jv (fun v_5 h=>jv (fun v_6 h=>jv (fun v_7 h=>jn (fun l h=>e3 l fun x x_1 x_2=>ldn 3 h x fun v=>(t.C 24).r [v,x_2,x_1] h (fun v h=>wTu v fun n g=>ck (Nat.ble 1 n) (wTu v fun n g_1=>ck (Nat.ble 2 n) (ldn 3 h x fun v=>(t.C 25).r [v,x_2,x_1] h (fun v h=>wTu v fun n g_2=>ck (Nat.ble 1 n) (wTu v fun n g_3=>ck (Nat.ble 2 n) (ldn 3 h x fun v=>(t.C 15).r [v] h (fun v h=>un v fun v=>jn (fun l h=>e7 l fun x x_3 x_4 x_5 x_6 x_7 x_8=>ldn 3 h x_6 fun v=>(t.C 16).r [v,x_8] h (fun v h=>jv (fun v_8 h=>jv (fun v_9 h=>jv (fun v_10 h=>jv (fun v_11 h=>jv (fun v h=>jv (fun v_12 h=>jv (fun v_13 h=>jv (fun v_14 h=>jv (fun v_15 h=>jv (fun v_16 h=>jv (fun v_17 h=>jv (fun v_18 h=>jv (fun v_19 h=>jv (fun v_20 h=>jv (fun v_21 h=>jv (fun v_22 h=>jv (fun v_23 h=>jv (fun v h=>jv (fun v h=>jv (fun v h=>jv (fun v_24 h=>jv (fun v_25 h=>jv (fun v_26 h=>jv (fun v_27 h=>jv (fun v_28 h=>jv (fun v_29 h=>jv (fun v_30 h=>jv (fun v h=>jv (fun v h=>jn (fun l h=>e5 l fun x x_9 x_10 x_11 x_12=>ldn 3 h x_10 fun v=>(t.C 29).r [v,x_12] h (fun v h=>un v fun v=>jv (fun v_31 h=>jv (fun v_32 h=>jv (fun v_33 h=>jv (fun v_34 h=>jv (fun v_35 h=>jv (fun v_36 h=>jv (fun v_37 h=>jv (fun v_38 h=>jv (fun v_39 h=>jv (fun v_40 h=>jv (fun v h=>jn (fun l h=>e5 l fun x x_13 x_14 x_15 x_16=>fa 2 x_14 fun v=>ld1 h v fun v=>ix 6 v x_16 fun v=>ldn 6 h v fun v=>(t.C 30).r [v,x_15] h (fun v h=>wTu v fun n g=>ck (Nat.ble 1 n) (wTu v fun n g_4=>ck (Nat.ble 2 n) (un (g_4 1) fun v=>jn (fun l h=>e3 l fun x x_17 x_18=>eqi x_17 (mkI 0) fun v=>jv (fun v_41 h=>jv (fun v_42 h=>jv (fun v h=>jv (fun v_43 h=>jv (fun v_44 h=>jv (fun v_45 h=>jv (fun v h=>jv (fun v_46 h=>jv K fun k=>wB v (k v_46 h) (k (AV.bool false) h)) fun k=>wG true v ((t.C 12).r [] h k Pn) (k skipV h)) fun k=>wB v (k v_45 h) (k (AV.bool false) h)) fun k=>wG true v ((t.C 32).r [v_43,v_44] h k Pn) (k skipV h)) fun k=>wG true v (k x h) (k skipV h)) fun k=>wG true v (k x_18 h) (k skipV h)) fun k=>wB v (k v_42 h) (k (AV.bool false) h)) fun k=>wG true v ((t.C 31).r [v_41] h k Pn) (k skipV h)) fun k=>wG true v (k x_18 h) (k skipV h)) fun k=>wB v (eqi x (mkI 5) fun v=>jv (fun v_41 h=>jv (fun v_42 h=>jv (fun v_43 h=>jv (fun v h=>jv (fun v_44 h=>jv K fun k=>wB v (k v_44 h) (k (AV.bool false) h)) fun k=>wG true v ((t.C 12).r [] h k Pn) (k skipV h)) fun k=>wB v (k v_43 h) (k (AV.bool false) h)) fun k=>wG true v (eqi v_42 (mkI 0) fun v=>k v h) (k skipV h)) fun k=>wG true v (len v_41 fun v=>k v h) (k skipV h)) fun k=>wG true v (k x_13 h) (k skipV h)) (k [g 0,x,x_13] h)))) Pn) fun k=>wB v (eqi x (mkI 2) fun v=>jv (fun v_41 h=>jv (fun v_42 h=>jv (fun v_43 h=>jv (fun v h=>jv (fun v_44 h=>jv K fun k=>wB v (k v_44 h) (k (AV.bool false) h)) fun k=>wG true v ((t.C 12).r [] h k Pn) (k skipV h)) fun k=>wB v (k v_43 h) (k (AV.bool false) h)) fun k=>wG true v (eqi v_42 (mkI 0) fun v=>k v h) (k skipV h)) fun k=>wG true v (len v_41 fun v=>k v h) (k skipV h)) fun k=>wG true v (k x_9 h) (k skipV h)) (k [x,x_9,x_10,x_11,x_12] h)) fun k=>wB v (k (AV.bool true) h) (k v_40 h)) fun k=>wG false v (un v_39 fun v=>k v h) (k skipV h)) fun k=>wG false v ((t.C 26).r [v_38,v_37,v_31] h k Pn) (k skipV h)) fun k=>wG false v (ldn 3 h x_10 fun v=>k v h) (k skipV h)) fun k=>wG false v (ld1 h v_36 fun v=>k v h) (k skipV h)) fun k=>wG false v (fa 0 v_35 fun v=>k v h) (k skipV h)) fun k=>wG false v (ix 6 v_34 v_32 fun v=>k v h) (k skipV h)) fun k=>wG false v (ld1 h v_33 fun v=>k v h) (k skipV h)) fun k=>wG false v (fa 2 x_10 fun v=>k v h) (k skipV h)) fun k=>wG false v (k x_12 h) (k skipV h)) fun k=>wG false v (k x_11 h) (k skipV h)) Pn) fun k=>wB v (K (AV.bool false) h) (k [x,x_3,x_6,x_7,x_8] h)) fun k=>wB v_23 (k (AV.bool true) h) (k v h)) fun k=>wG false v_23 (jv k fun k=>wB v (k v_30 h) (k (AV.bool false) h)) (k skipV h)) fun k=>wG true v (jv k fun k=>wB v_26 (k (AV.bool true) h) (k v_29 h)) (k skipV h)) fun k=>wG false v_26 (lt (mkI 0) v_28 fun v=>k v h) (k skipV h)) fun k=>wG false v_26 (len v_27 fun v=>k v h) (k skipV h)) fun k=>wG false v_26 (k x_5 h) (k skipV h)) fun k=>wG true v (k v_25 h) (k skipV h)) fun k=>wG true v (nei v_24 (mkI 2) fun v=>k v h) (k skipV h)) fun k=>wG true v (k x_4 h) (k skipV h)) fun k=>wG false v_23 (k v h) (k skipV h)) fun k=>wG false v_23 (un v fun v=>k v h) (k skipV h)) fun k=>wG false v_23 (k v h) (k skipV h)) fun k=>wB v (k v_22 h) (k (AV.bool false) h)) fun k=>wG true v (jv k fun k=>wB v_14 (k (AV.bool true) h) (k v_21 h)) (k skipV h)) fun k=>wG false v_14 (un v_20 fun v=>k v h) (k skipV h)) fun k=>wG false v_14 ((t.C 27).r [v_15,v_19] h k Pn) (k skipV h)) fun k=>wG false v_14 ((t.C 28).r [v_16,v_17,v_18] h k Pn) (k skipV h)) fun k=>wG false v_14 (k x_7 h) (k skipV h)) fun k=>wG false v_14 (k x_8 h) (k skipV h)) fun k=>wG false v_14 (ldn 3 h x_6 fun v=>k v h) (k skipV h)) fun k=>wG false v_14 (k x_5 h) (k skipV h)) fun k=>wG true v (k v_13 h) (k skipV h)) fun k=>wG true v (nei v_12 (mkI 0) fun v=>k v h) (k skipV h)) fun k=>wG true v (k x_4 h) (k skipV h)) fun k=>wB v (k v_11 h) (k (AV.bool false) h)) fun k=>wG true v ((t.C 26).r [v_8,v_9,v_10] h k Pn) (k skipV h)) fun k=>wG true v (k x_7 h) (k skipV h)) fun k=>wG true v (k x_8 h) (k skipV h)) fun k=>wG true v (ldn 3 h x_6 fun v=>k v h) (k skipV h)) Pn) fun k=>wB v (eqi (g_1 1) (mkI 2) fun v=>jv (fun v_8 h=>jv (fun v_9 h=>jv (fun v_10 h=>jv (fun v h=>jv (fun v_11 h=>jv (fun v_12 h=>jv (fun v h=>jv (fun v_13 h=>jv (fun v_14 h=>jv (fun v_15 h=>jv (fun v h=>jv (fun v_16 h=>jv K fun k=>wB v (k v_16 h) (k (AV.bool false) h)) fun k=>wG true v ((t.C 12).r [] h k Pn) (k skipV h)) fun k=>wB v (k v_15 h) (k (AV.bool false) h)) fun k=>wG true v (eqi v_14 (mkI 0) fun v=>k v h) (k skipV h)) fun k=>wG true v (len v_13 fun v=>k v h) (k skipV h)) fun k=>wG true v (k (g_2 0) h) (k skipV h)) fun k=>wB v (k v_12 h) (k (AV.bool false) h)) fun k=>wG true v (eqi v_11 (mkI 2) fun v=>k v h) (k skipV h)) fun k=>wG true v (k (g_3 1) h) (k skipV h)) fun k=>wB v (k v_10 h) (k (AV.bool false) h)) fun k=>wG true v (eqi v_9 (mkI 0) fun v=>k v h) (k skipV h)) fun k=>wG true v (len v_8 fun v=>k v h) (k skipV h)) fun k=>wG true v (k (g 0) h) (k skipV h)) (k [g_3 1,g_2 0,g_1 1,g 0,x,x_1,x_2] h)) Pn))) Pn))) Pn) fun k=>wB v_7 ((t.C 12).r [] h (fun v h=>K v h) Pn) (k [v,x2,x1] h)) fun k=>wB v_3 (k (AV.bool true) h) (k v_6 h)) fun k=>wG false v_3 (un v_5 fun v=>k v h) (k skipV h)) fun k=>wG false v_3 ((t.C 23).r [v_4] h k Pn) (k skipV h)) fun k=>wG false v_3 (k x2 h) (k skipV h)) Pn):=by kernel_rfl
theorem mat_len {p:Pg}{n:Int}{l:List Tm}(hP:progP p)(hv:valuesP p.sig n l):∀j,j∈ofL p.rules 0 n→(p.rules.getD j.toNat default).pats.length=l.length:=by
 intro j hj
 obtain⟨d1,d2,d3⟩:=ofL_mem hj
 rw[Int.sub_zero] at d3
 have hmem:p.rules.getD j.toNat default∈p.rules:=getD_mem (by omega)
 have h1:=(hP.f3 _ hmem).f3
 have h2:=hv.f1
 rw[d3] at h1
 omega
theorem mat_same {p:Pg}{n:Int}{l:List Tm}(hP:progP p)(hv:valuesP p.sig n l):matL p n l=(ofL p.rules 0 n).filter (yesP p l):=List.filter_congr fun j hj=>mB_yesP hP hv hj
theorem rule_fun {p:Pg}{n:Int}(hP:progP p)(h:ruleIn p n):funIn p (p.rules.getD n.toNat default).fn:=by
 have h1:=h.1
 have h2:=h.2
 have hR:=hP.f3 _ (getD_mem (l:=p.rules) (i:=n.toNat) (by omega))
 exact⟨hR.f1,hR.f2⟩
set_option maxHeartbeats 8000000 in
theorem c_RuleMatches (p:Pg)(n:Int)(k:Fz)(l:List Tm)(ho:∀t,t∈l→okT t):Pu Tryz.prog 4 [eP p,.int .i64 n,eTs k l] (.bool true):=by
 refine Pu.of prOk (by kernel_rfl) ⟨eP_below _,trivial,trivial,trivial⟩ ?_
 rw[t_4]
 have z:((([]:List Int).length:Nat):Int)=0:=rfl
 have z2:((([]:List (Int × Tm)).length:Nat):Int)=0:=rfl
 refine onc sP ?_
 refine(c_SmallProg5 p).call ?_
 by_cases hp:smallP p
 case neg=>
  rw[decide_eq_false hp]
  refine on ?_
  refine c_known.call ?_
  exact fin_b rfl
 rw[decide_eq_true hp]
 refine on ?_
 refine(c_SmallTerms5 k l).call ?_
 by_cases hl:smallTs l
 case neg=>
  rw[decide_eq_false hl]
  refine on ?_
  refine c_known.call ?_
  exact fin_b rfl
 rw[decide_eq_true hl]
 have hp1:=hp.f1
 have hl6:=hl.f1
 refine onc sP ?_
 refine(c_Matches p n k l hp hl).call ?_
 by_cases c1:progP p
 case neg=>
  have c1':¬progR p:=fun h=>c1 ((prog_eq p).2 h)
  rw[if_neg (fun h=>c1 h.1)]
  unfold pairM
  refine onc sP ?_
  refine(c_Apply p n k l hp hl ho).call ?_
  rw[apB,if_neg (fun h=>c1 h.1)]
  unfold pairB eB
  refine onc sP ?_
  refine(c_Prog5 p hp).call ?_
  rw[decide_eq_false c1']
  refine onc (And.intro z z2) ?_
  refine c_known.call ?_
  refine on ?_
  exact fin_b rfl
 have c1':=(prog_eq p).1 c1
 have hol:=ofL_len p.rules 0 n
 have hml:(matL p n l).length≤p.rules.length:=Nat.le_trans (List.length_filter_le ..) (by omega)
 obtain⟨L,e,a2,hA⟩:∃L e,apB p n l=pairB L e∧((¬apOk p n l∧L=[]∧e=2)∨(apOk p n l∧(apT p n l).2=false∧L=[]∧e=5)∨(apOk p n l∧(apT p n l).2=true∧L=bU (apT p n l).1 20∧e=0)):=by
  unfold apB
  by_cases c:apOk p n l
  ·rw[if_pos c]
   cases hb:(apT p n l).2 with
   |true=>exact⟨_,_,if_pos rfl,.inr (.inr ⟨c,rfl,rfl,rfl⟩)⟩
   |false=>exact⟨_,_,if_neg (by decide),.inr (.inl ⟨c,rfl,rfl,rfl⟩)⟩
  ·exact⟨_,_,if_neg c,.inl ⟨c,rfl,rfl⟩⟩
 obtain⟨M,f,m2,hM⟩:∃M f,(if progP p∧funIn p n∧valuesP p.sig n l then pairM (matL p n l) 0 else pairM [] 2)=pairM M f∧((funIn p n∧valuesP p.sig n l∧M=matL p n l∧f=0)∨(funIn p n∧¬valuesP p.sig n l∧M=[]∧f=2)∨(¬funIn p n∧M=[]∧f=2)):=by
  by_cases c2:funIn p n
  ·by_cases c3:valuesP p.sig n l
   ·exact⟨_,_,if_pos ⟨c1,c2,c3⟩,.inl ⟨c2,c3,rfl,rfl⟩⟩
   ·exact⟨_,_,if_neg (fun h=>c3 h.2.2),.inr (.inl ⟨c2,c3,rfl,rfl⟩)⟩
  ·exact⟨_,_,if_neg (fun h=>c2 h.2.1),.inr (.inr ⟨c2,rfl,rfl⟩)⟩
 rw[m2]
 unfold pairM
 refine onc sP ?_
 refine(c_Apply p n k l hp hl ho).call ?_
 rw[a2]
 unfold pairB
 refine onc sP ?_
 refine(c_Prog5 p hp).call ?_
 rw[decide_eq_true c1']
 refine onc sP ?_
 refine(c_Fun5 p n hp).call ?_
 rcases hM with⟨c2,c3,rfl,rfl⟩|⟨c2,c3,rfl,rfl⟩|⟨c2,rfl,rfl⟩
 case' pos.inl=>
  rw[decide_eq_true c2]
  refine onc sP ?_
  refine(c_Args p n k l hp c2 hl).call ?_
  rw[decide_eq_true (argsR_iff.2 c3)]
  refine onc sP ?_
  refine(c_Matches5 p n k l hp (by omega) (mat_len c1 c3)).call ?_
  refine onc sP ?_
  refine(c_SameInts .may .auto _ _ (by omega)).call ?_
  rw[decide_eq_true (mat_same c1 c3)]
 case' pos.inr.inl=>
  rw[decide_eq_true c2]
  refine onc sP ?_
  refine(c_Args p n k l hp c2 hl).call ?_
  rw[decide_eq_false (fun h=>c3 (argsR_iff.1 h))]
 case' pos.inr.inr=>
  rw[decide_eq_false c2]
 all_goals refine onc (And.intro z sP) ?_
 all_goals refine(c_Rule5 p n hp).call ?_
 all_goals
  rcases hA with⟨a1,rfl,rfl⟩|⟨a1,a3,rfl,rfl⟩|⟨a1,a3,rfl,rfl⟩
  ·by_cases c4:ruleIn p n
   ·have h41:=c4.1
    have h42:=c4.2
    rw[decide_eq_true c4]
    refine onc (And.intro h41 <| And.intro h42 sP) ?_
    refine(c_Args p _ k l hp (rule_fun c1 c4) hl).call ?_
    rw[decide_eq_false (fun h=>a1 ⟨c1,h41,h42,argsR_iff.1 h⟩)]
    unfold eB
    refine onc (And.intro z2 sP) ?_
    refine c_known.call ?_
    refine on ?_
    exact fin_b rfl
   ·rw[decide_eq_false c4]
    unfold eB
    refine onc (And.intro z2 sP) ?_
    refine c_known.call ?_
    refine on ?_
    exact fin_b rfl
  ·have h41:=a1.2.1
   have h42:=a1.2.2.1
   have c4:ruleIn p n:=⟨h41,h42⟩
   have hS:=hp.f2 _ (getD_mem (l:=p.rules) (i:=n.toNat) (by omega))
   have hb:=(ap_mat (k:=k) c1 h41 h42 a1.2.2.2).f1
   rw[decide_eq_true c4]
   refine onc (And.intro h41 <| And.intro h42 sP) ?_
   refine(c_Args p _ k l hp (rule_fun c1 c4) hl).call ?_
   rw[decide_eq_true (argsR_iff.2 a1.2.2.2)]
   refine onc (And.intro h41 <| And.intro h42 sP) ?_
   refine(c_Apply5 _ k l (whole_few hS.f1) (whole_few hl)).call ?_
   rw[hb,a3]
   unfold eB
   refine onc (And.intro z2 sP) ?_
   refine c_known.call ?_
   refine on ?_
   exact fin_b rfl
  ·have h41:=a1.2.1
   have h42:=a1.2.2.1
   have c4:ruleIn p n:=⟨h41,h42⟩
   have hS:=hp.f2 _ (getD_mem (l:=p.rules) (i:=n.toNat) (by omega))
   have hb:=(ap_mat (k:=k) c1 h41 h42 a1.2.2.2).f1
   have hb2:=(ap_mat (k:=k) c1 h41 h42 a1.2.2.2).f2 a3
   have hul:=bU_len (apT p n l).1 20
   rw[decide_eq_true c4]
   refine onc (And.intro h41 <| And.intro h42 sP) ?_
   refine(c_Args p _ k l hp (rule_fun c1 c4) hl).call ?_
   rw[decide_eq_true (argsR_iff.2 a1.2.2.2)]
   refine onc (And.intro h41 <| And.intro h42 sP) ?_
   refine(c_Apply5 _ k l (whole_few hS.f1) (whole_few hl)).call ?_
   rw[hb,hb2,a3]
   refine onc sP ?_
   refine(c_SmallBinds .auto _ (by omega)).call ?_
   rw[decide_eq_true (bU_small hl)]
   refine onc sP ?_
   refine(c_SameBinds .auto .auto _ _ (by omega) (fun x hx=>(bU_small hl x hx).few)).call ?_
   rw[decide_eq_true (same_bV _ _)]
   refine on ?_
   refine c_known.call ?_
   refine on ?_
   exact fin_b rfl
def QO (x:Fz × List Tm):Prop:=∀t,t∈x.2→okT t
def encTs (x:Fz × List Tm):AV:=eTs x.1 x.2
theorem arg_termsQ:Arg Tryz.prog 45 QO encTs:=arg_termsO
theorem d_RuleMatches (R:Res)(p:Pg)(n:Int)(x:Fz × List Tm)(hp:List AObj)(g:R.σ)(ho:QO x):Does Tryz.prog R 4 [eP p,encI n,encTs x] hp g (.ret (.bool true)) hp g:=(c_RuleMatches p n x.1 x.2 ho).do_ R hp g
end
end Go.Proofs.YtgmjpmeddajmgaaGreat
namespace Go.Proofs.YtgmjpmeddajmgaaGreat
open Go Go.Avm Go.WideShapes Go.ChangeShapes
set_option maxRecDepth 100000 in
theorem ruleMatches_lifted (os:Os)(started:os.Started)(H:Type)(enc:TypeId × Value→H) :
  ReturnsInHanded {} Tryz.checked os 4 .any (Rows.ruleMatchesSpec.pre6 enc Tryz.prog Tryz.f4 Rows.ruleMatchesRow.domain Rows.ruleMatchesRow.apart) (Rows.ruleMatchesSpec.post enc Tryz.prog Tryz.f4 Rows.ruleMatchesRow.apart Rows.ruleMatchesRow.fresh Rows.ruleMatchesRow.handsOn Rows.ruleMatchesRow.again):=
 law_returns (C:=Tryz.checked) (tb:=4) (X:=fun l=>∃a:Pg,True∧∃l',(∃b:Int,True∧∃l'',(∃c:(Fz × List Tm),QO c∧∃l''',(l'''=[])∧l''=encTs c::l''')∧l'=encI b::l'')∧l=eP a::l') (by kernel_rfl) started (by kernel_rfl) Tryz.func4
  (ChangeSpec.witness6 (enc:=enc) (C:=Tryz.checked) false ⟨#[],#[.agg #[.slice none 0 0,.slice none 0 0,.slice none 0 0],.int .i64 0,.slice none 0 0],[]⟩ 8 (by kernel_rfl) (by kernel_rfl) (by kernel_rfl) (by kernel_rfl))
  rfl (fun ds h=>by
   match ds,h with
   |[_,_,_],_=>rfl) (by kernel_rfl)
  (fun t ht=>by
   have ht:t∈[27,3,45]:=ht
   simp only[List.mem_cons,List.not_mem_nil,or_false] at ht
   rcases ht with rfl|rfl|rfl <;> exact⟨by kernel_rfl,of_decide_eq_true (by kernel_rfl)⟩) rfl Tryz.underlying4
  ((args_cons arg_pg (args_cons arg_int1 (args_cons arg_termsQ args_nil))))
  (fun avs ⟨a,ha,_,⟨b,hb,_,⟨c,hc,_,e0,e1⟩,e2⟩,e3⟩=>by
   subst e0 e1 e2 e3
   exact d_RuleMatches Res.none a b c [] () hc)
theorem fact_in:(Rows.ruleMatchesRow.inPlace==Tryz.pinned.checked.prog.inPlace 4)=true:=by kernel_rfl
theorem fact_un:(Rows.ruleMatchesRow.unfollowed==Tryz.pinned.checked.prog.unfollowed 4)=true:=by kernel_rfl
theorem fact_re:(Rows.ruleMatchesRow.recurses==Tryz.pinned.checked.prog.recurses 4)=true:=by kernel_rfl
theorem fact_na:(Rows.ruleMatchesRow.named==Tryz.pinned.checked.prog.varsNamed 4)=true:=by kernel_rfl
theorem facts:joinedFacts Tryz.pinned.checked.prog 4 Tryz.f4 Rows.ruleMatchesSpec Rows.ruleMatchesRow=true:=by
 unfold joinedFacts
 rw[fact_in,fact_un,fact_re,fact_na]
 kernel_rfl
theorem named:Tryz.pinned.checked.prog.funcNamed Rows.ruleMatchesRow.func=some 4:=by kernel_rfl
theorem ruleMatches_holds:Rows.RuleMatchesSaid:=
 OpenClaim.holds_of_wide 4 Tryz.f4 rfl rfl rfl rfl rfl rfl rfl ⟨rfl,rfl,rfl,rfl,rfl⟩ rfl rfl rfl rfl rfl named Tryz.func4 facts
  (of_decide_eq_true (by kernel_rfl)) (by unfold Func.isWrapper;rw[if_neg (by decide +kernel)];exact⟨rfl,rfl⟩)
  (fun os started H enc _=>ruleMatches_lifted os started H enc)
#print axioms ruleMatches_holds
end Go.Proofs.YtgmjpmeddajmgaaGreat
