/- Part 4 of the proof: lemmas. -/
import Derived.Test.YtgmjpmeddajmgaaGreatM3
namespace Go.Proofs.YtgmjpmeddajmgaaGreat
open Go Go.Avm Go.Bvm
set_option maxRecDepth 100000
set_option linter.unusedVariables false
set_option linter.unusedSimpArgs false
set_option linter.defProp false
noncomputable section
attribute [local irreducible] jn jv br lp ck iff wB wG wRef wSl wCl wAg wTu wStr wFn wIfc wInt wCe wRe wMp wFr ad sb ml lt le eqi nei eq1 isNil un cvt fa len lens ix ixA ixS ixV ld1 ldn sto al bx pt bs ms app cpy sli lkm mup men mst mrg srg snx mnx mtr tas lenm rgT rgE finR mfind mset mput wKey wMa sV sem fin Ho
theorem t_169 (t:Tb)(h:H)(K Pn:KVH)(x0 x1 x2:AV):(compF Tryz.prog (drawsC Tryz.prog) 169).r t [x0,x1,x2] h K Pn=ck true (le x1 x0 fun v=>jv (fun v_1 h=>jv (fun v_2 h=>jv (fun v_3 h=>jv K fun k=>wB v (k v_3 h) (k (AV.bool false) h)) fun k=>wG true v (le v_1 v_2 fun v=>k v h) (k skipV h)) fun k=>wG true v (k x2 h) (k skipV h)) fun k=>wG true v (k x0 h) (k skipV h)):=by kernel_rfl
theorem t_168 (t:Tb)(h:H)(K Pn:KVH)(x0:AV):(compF Tryz.prog (drawsC Tryz.prog) 168).r t [x0] h K Pn=ck true (srg x0 h fun v h=>jn (fun l h=>e1 l fun x=>lens x fun v=>(t.C 169).r [v,mkI 1,mkI 8] h (fun v h=>K v h) Pn) fun k=>lp (fun L l h=>e7 l fun x x_1 x_2 x_3 x_4 x_5 x_6=>snx x_3 h fun v h=>wTu v fun n g=>ck (Nat.ble 1 n) (jn (fun l h=>e5 l fun x x_7 x_8 x_9 x_10=>jn L fun k=>wTu x_7 fun n g=>ck (Nat.ble 3 n) (le (AV.int IntKind.i32 (Int.ofNat 97)) (g 2) fun v=>jv (fun v_1 h=>jv (fun v_2 h=>jv (fun v h=>jv (fun v_3 h=>jv (fun v_4 h=>jv (fun v_5 h=>jv (fun v_6 h=>jv (fun v_7 h=>jv (fun v_8 h=>jv (fun v h=>un v fun v=>jn k fun k=>wB v (K (AV.bool false) h) (k [v,x,x_7,x_8,g 2,x_9,x_10] h)) fun k=>wB v (k (AV.bool true) h) (k v_8 h)) fun k=>wG false v (jv k fun k=>wB v_5 (k v_7 h) (k (AV.bool false) h)) (k skipV h)) fun k=>wG true v_5 (le v_6 (AV.int IntKind.i32 (Int.ofNat 90)) fun v=>k v h) (k skipV h)) fun k=>wG true v_5 (k (g 2) h) (k skipV h)) fun k=>wG false v (k v_4 h) (k skipV h)) fun k=>wG false v (le (AV.int IntKind.i32 (Int.ofNat 65)) v_3 fun v=>k v h) (k skipV h)) fun k=>wG false v (k (g 2) h) (k skipV h)) fun k=>wB v (k v_2 h) (k (AV.bool false) h)) fun k=>wG true v (le v_1 (AV.int IntKind.i32 (Int.ofNat 122)) fun v=>k v h) (k skipV h)) fun k=>wG true v (k (g 2) h) (k skipV h))) fun k_1=>wB (g 0) (k_1 [g 0,v,x_3,x_5,x_6] h) (k [x_6] h))) [AV.any,AV.any,AV.any,v,AV.any,AV.bool false,x0] h):=by kernel_rfl
theorem t_167 (t:Tb)(h:H)(K Pn:KVH)(x0 x1:AV):(compF Tryz.prog (drawsC Tryz.prog) 167).r t [x0,x1] h K Pn=ck true (bx x0 h fun v h=>ld1 h x1 fun v_1=>fa 0 v fun v_2=>ld1 h v_2 fun v_3=>lkm 9 (keyC Tryz.prog 9) (AV.bool false) false v_1 v_3 h fun v_4=>ld1 h x1 fun v_5=>fa 0 v fun v_6=>ld1 h v_6 fun v_7=>mup 9 (keyC Tryz.prog 9) v_5 v_7 (AV.bool true) h fun h=>un v_4 fun v_8=>jv (fun v_9 h=>jv (fun v_10 h=>jv (fun v_11 h=>jv (fun v_12 h=>jv (fun v h=>jv (fun v h=>jv (fun v h=>jv K fun k=>wB v_12 (k v h) (k (AV.bool false) h)) fun k=>wG true v_12 ((t.C 169).r [v,mkI 0,mkI 4] h k Pn) (k skipV h)) fun k=>wG true v_12 (ld1 h v fun v=>k v h) (k skipV h)) fun k=>wG true v_12 (fa 1 v fun v=>k v h) (k skipV h)) fun k=>wB v_8 (k v_11 h) (k (AV.bool false) h)) fun k=>wG true v_8 ((t.C 168).r [v_10] h k Pn) (k skipV h)) fun k=>wG true v_8 (ld1 h v_9 fun v=>k v h) (k skipV h)) fun k=>wG true v_8 (fa 0 v fun v=>k v h) (k skipV h)):=by kernel_rfl
theorem t_170 (t:Tb)(h:H)(K Pn:KVH)(x0 x1:AV):(compF Tryz.prog (drawsC Tryz.prog) 170).r t [x0,x1] h K Pn=ck true (len x0 fun v=>jn (fun l h=>K (AV.bool true) h) fun k=>lp (fun L l h=>e8 l fun x x_1 x_2 x_3 x_4 x_5 x_6 x_7=>lt x_2 x_3 fun v=>jn (fun l h=>e6 l fun x x_8 x_9 x_10 x_11 x_12=>jn (fun l h=>e8 l fun x x_13 x_14 x_15 x_16 x_17 x_18 x_19=>ad x_14 (mkI 1) fun v=>L [x,x_13,v,x_15,x_16,x_17,x_18,x_19] h) fun k=>ix 2 x_10 x_8 fun v=>ldn 2 h v fun v=>al 2 [AV.str { data:={ toList:=[] } },mkI 0] h fun v_1 h=>sto 2 h v_1 v fun h=>ldn 2 h v_1 fun v=>wFn x_12 (fun g na a nb b=>(t.C g).r (ap (tb na a) (v::tb nb b)) h (fun v h=>un v fun v=>jn k fun k=>wB v (K (AV.bool false) h) (k [v,x,x_8,x_9,x_10,v_1,x_11,x_12] h)) Pn) fun o=>(t.R o).r [v] h (fun v h=>un v fun v=>jn k fun k=>wB v (K (AV.bool false) h) (k [v,x,x_8,x_9,x_10,v_1,x_11,x_12] h)) Pn) fun k_1=>wB v (k_1 [v,x_2,x_3,x_4,x_6,x_7] h) (k [] h)) [AV.any,AV.any,mkI 0,v,x0,AV.any,AV.bool false,x1] h):=by kernel_rfl
theorem t_123 (t:Tb)(h:H)(K Pn:KVH)(x0:AV):(compF Tryz.prog (drawsC Tryz.prog) 123).r t [x0] h K Pn=ck true (bx x0 h fun v h=>al 1 [AV.nilm] (nw h (CO.map (keyTy Tryz.prog 201) [])) fun v_1 h_1=>sto 1 h_1 v_1 (AV.mp h.2) fun h=>fa 0 v fun v_2=>ld1 h v_2 fun v_3=>len v_3 fun v_4=>(t.C 169).r [v_4,mkI 2,mkI 12] h (fun v_5 h=>un v_5 fun v_6=>jv (fun v_7 h=>jv (fun v_8 h=>jv (fun v_9 h=>jv (fun v_10 h=>jv (fun v_11 h=>jv (fun v_12 h=>jv (fun v_13 h=>jv (fun v_14 h=>jv (fun v_15 h=>jv (fun v_16 h=>jv (fun v_17 h=>jv (fun v_18 h=>jv (fun v_19 h=>jv (fun v_20 h=>jv (fun v_21 h=>jv (fun v_22 h=>jv (fun v_23 h=>jn (fun l h=>e1 l fun x=>fa 0 x fun v=>ld1 h v fun v=>ix 2 v (mkI 0) fun v=>ldn 2 h v fun v=>pt 0 1 (AV.str { data:={ toList:=[70,97,108,115,101] } }) [AV.str { data:={ toList:=[] } },mkI 0] fun cs=>wAg v fun n f=>wAg (AV.agg 2 (nx cs)) fun m g=>ck (n.beq 2) (ck (m.beq 2) (wStr (f 0) fun s=>wStr (g 0) fun u=>wInt (f 1) fun k a=>wInt (g 1) fun j b=>ck (kq k j) (jv (fun v h=>jv (fun v h=>jv (fun v h=>jv (fun v h=>jv (fun v_24 h=>jv (fun v h=>jv (fun v h=>jn (fun l h=>K (mkI 0) h) fun k=>wB v (K (mkI 2) h) (k [] h)) fun k=>wB (AV.bool (true ^^ Bool.rec false (Bool.rec false true (ieq a b)) (eqS s u))) (k (AV.bool true) h) (k v h)) fun k=>wG false (AV.bool (true ^^ Bool.rec false (Bool.rec false true (ieq a b)) (eqS s u))) (wAg v fun n f=>wAg v_24 fun m g=>ck (n.beq 2) (ck (m.beq 2) (wStr (f 0) fun s=>wStr (g 0) fun u=>wInt (f 1) fun k_1 a=>wInt (g 1) fun j b=>ck (kq k_1 j) (k (AV.bool (true ^^ Bool.rec false (Bool.rec false true (ieq a b)) (eqS s u))) h)))) (k skipV h)) fun k=>wG false (AV.bool (true ^^ Bool.rec false (Bool.rec false true (ieq a b)) (eqS s u))) (pt 0 1 (AV.str { data:={ toList:=[84,114,117,101] } }) [AV.str { data:={ toList:=[] } },mkI 0] fun cs=>k (AV.agg 2 (nx cs)) h) (k skipV h)) fun k=>wG false (AV.bool (true ^^ Bool.rec false (Bool.rec false true (ieq a b)) (eqS s u))) (ldn 2 h v fun v=>k v h) (k skipV h)) fun k=>wG false (AV.bool (true ^^ Bool.rec false (Bool.rec false true (ieq a b)) (eqS s u))) (ix 2 v (mkI 1) fun v=>k v h) (k skipV h)) fun k=>wG false (AV.bool (true ^^ Bool.rec false (Bool.rec false true (ieq a b)) (eqS s u))) (ld1 h v fun v=>k v h) (k skipV h)) fun k=>wG false (AV.bool (true ^^ Bool.rec false (Bool.rec false true (ieq a b)) (eqS s u))) (fa 0 x fun v=>k v h) (k skipV h))))) fun k=>wB v_23 (K (mkI 2) h) (k [v] h)) fun k=>wB v_17 (k (AV.bool true) h) (k v_22 h)) fun k=>wG false v_17 (un v_21 fun v=>k v h) (k skipV h)) fun k=>wG false v_17 ((t.C 170).r [v_19,v_20] h k Pn) (k skipV h)) fun k=>wG false v_17 (k (AV.fn 167 0 (nx []) 1 (nx [v_1])) h) (k skipV h)) fun k=>wG false v_17 (ld1 h v_18 fun v=>k v h) (k skipV h)) fun k=>wG false v_17 (fa 1 v fun v=>k v h) (k skipV h)) fun k=>wB v_11 (k (AV.bool true) h) (k v_16 h)) fun k=>wG false v_11 (un v_15 fun v=>k v h) (k skipV h)) fun k=>wG false v_11 ((t.C 170).r [v_13,v_14] h k Pn) (k skipV h)) fun k=>wG false v_11 (k (AV.fn 167 0 (nx []) 1 (nx [v_1])) h) (k skipV h)) fun k=>wG false v_11 (ld1 h v_12 fun v=>k v h) (k skipV h)) fun k=>wG false v_11 (fa 0 v fun v=>k v h) (k skipV h)) fun k=>wB v_6 (k (AV.bool true) h) (k v_10 h)) fun k=>wG false v_6 (lt (mkI 8) v_9 fun v=>k v h) (k skipV h)) fun k=>wG false v_6 (len v_8 fun v=>k v h) (k skipV h)) fun k=>wG false v_6 (ld1 h v_7 fun v=>k v h) (k skipV h)) fun k=>wG false v_6 (fa 1 v fun v=>k v h) (k skipV h)) Pn):=by kernel_rfl
theorem c_within (n a b:Int):Pu Tryz.prog 169 [.int .i64 n,.int .i64 a,.int .i64 b] (.bool (decide (a≤n∧n≤b))):=by
 refine Pu.of prOk (by kernel_rfl) ⟨trivial,trivial,trivial,trivial⟩ ?_
 rw[t_169]
 refine on (ho_br (fun c=>?_) (fun c=>?_))
 ·refine onc c ?_
  exact fin_b (by simp[c])
 ·refine onc c ?_
  exact fin_b (by simp[c])
theorem c_spelled (s:ByteArray)(hs:s.data.toList.length<1000):Pu Tryz.prog 168 [.str s] (.bool (decide (spelt s))):=by
 refine Pu.of prOk (by kernel_rfl) ⟨trivial,trivial⟩ ?_
 rw[t_168]
 refine onc @s_srg ?_
 have hlen:s.data.toList.length=s.size:=Array.length_toList (xs:=s.data)
 refine ho_lp (fun (i:Nat) v h=>(∃a b c d,v=[a,b,c,.ref 0 0,d,.bool false,.str s])∧gt h 0=.its 0 (s.data.toList.drop i) s i∧i≤s.data.toList.length∧∀b,b∈s.data.toList.take i→letter b) (fun i=>s.data.toList.length-i) 0 ⟨⟨_,_,_,_,rfl⟩,gt_nw h0 _,Nat.zero_le _,fun t ht=>by cases ht⟩ (by omega) ?_
 rintro i v h L ⟨⟨a,b,c,d,rfl⟩,hg,hi,hm⟩ ih
 refine on ?_
 refine ho_snx hg (fun h0=>?_) (fun b r hr hb=>?_) (fun b r hr hb=>?_)
 ·have hi2:s.data.toList.length≤i:=by
   have:=congrArg List.length h0
   rw[List.length_drop] at this
   simp at this
   omega
  refine on ?_
  refine(c_within _ _ _).call ?_
  refine on ?_
  rw[List.take_of_length_le (by omega)] at hm
  exact fin_b (decide_eq_decide.2 ⟨fun h=>⟨by omega,by omega,hm⟩,fun h=>by have:=h.f1;have:=h.f2;omega⟩)
 all_goals
  have hi2:i<s.data.toList.length:=by
   have:=congrArg List.length hr
   rw[List.length_drop,List.length_cons] at this
   omega
  have hbr:b=s.data.toList.getD i 0∧r=s.data.toList.drop (i+1):=by
   have:=drop_cons (l:=s.data.toList) (i:=i) hi2
   rw[hr] at this
   injection this with h1 h2
   exact⟨h1,h2⟩
  have hmem:b∈s.data.toList:=hbr.1▸getD_mem hi2
  have no:¬letter b→∀h,Ho (fin Tryz.prog (.bool (decide (spelt s))) (.bool false) h):=fun hn h=>fin_b (decide_eq_false fun e=>hn (e.f3 _ hmem)).symm
 ·have yes:∀(a b' c d:AV),letter b→Ho (L [a,b',c,.ref 0 0,d,.bool false,.str s] (st h 0 (.its 0 r s (i+1)))):=fun a b' c d hl=>ih (i+1) _ _ ⟨⟨_,_,_,_,rfl⟩,by rw[gt_st,hbr.2],by omega,all_snoc hi2 hm (hbr.1▸hl)⟩ (by omega)
  unfold letter at no yes
  refine onc (And.intro @s_tup3 trivial) (ho_br (fun c1=>?_) (fun c1=>?_))
  ·refine onc c1 (ho_br (fun c2=>?_) (fun c2=>?_))
   ·refine onc c2 ?_
    exact yes _ _ _ _ (by omega)
   ·refine onc c2 (ho_br (fun c3=>?_) (fun c3=>?_))
    ·refine onc c3 (ho_br (fun c4=>?_) (fun c4=>?_))
     ·refine onc c4 ?_
      exact no (by omega) _
     ·omega
    ·omega
  ·refine onc c1 (ho_br (fun c3=>?_) (fun c3=>?_))
   ·refine onc c3 (ho_br (fun c4=>?_) (fun c4=>?_))
    ·refine onc c4 ?_
     exact no (by omega) _
    ·refine onc c4 ?_
     exact yes _ _ _ _ (by omega)
   ·refine onc c3 ?_
    exact no (by omega) _
 ·have hb2:s.get! i=b:=by
   show s.data[i]! = b
   rw[hbr.1,Array.getElem!_eq_getD,Array.getD_eq_getD_getElem?,List.getD_eq_getElem?_getD,Array.getElem?_toList]
   rfl
  obtain⟨h1,h2⟩:=decode_big (s:=s) (i:=i) (by rw[hb2];omega) (by omega)
  refine⟨h2,?_⟩
  have hn:¬letter b:=by unfold letter;omega
  refine onc (And.intro @s_tup3 trivial) (ho_br (fun c1=>?_) (fun c1=>?_))
  ·refine onc c1 (ho_br (fun c2=>?_) (fun c2=>?_))
   ·omega
   ·refine onc c2 (ho_br (fun c3=>?_) (fun c3=>?_))
    ·refine onc c3 (ho_br (fun c4=>?_) (fun c4=>?_))
     ·refine onc c4 ?_
      exact no hn _
     ·omega
    ·omega
  ·omega
theorem cN_tb {x:Nm}:tb 2 (nx (cN x))=cN x:=rfl
theorem cN_spl {x:Nm}{a b:AV}:spl 0 (cN x) [a,b]=cN x:=rfl
theorem c_everyN {x:AV}{o:Nat}{σ:Type}{I:Bool→σ→H→Prop}{step:σ→Nm→σ × Bool}{D:Nm→Prop}(hx:FnOk x o (fun t=>[.agg 2 (nx (cN t))]) I step D)(hm:Mo I)(k:Fz)(l:List Nm)(hl:l.length≤2000)(hD:∀t,t∈l→D t)(s0:σ)(hs:H)(hI:I true s0 hs){K:KVH}
  (hK:∀h',Kp o hs h'→I (runL step s0 l).2 (runL step s0 l).1 h'→Ho (K (.bool (runL step s0 l).2) h')):Ho (((sem Tryz.prog).C 170).r [eNs k l,x] hs K noP):=by
 refine sem_fn prOk (by kernel_rfl) ?_
 rw[t_170]
 refine on ?_
 refine ho_lp (fun (y:Nat × σ) v h=>(∃a b c,v=[a,b,.int .i64 y.1,.int .i64 l.length,eNs k l,c,.bool false,x])∧y.1≤l.length∧Kp o hs h∧I true y.2 h∧runL step s0 l=runL step y.2 (l.drop y.1)) (fun y=>l.length-y.1) (0,s0) ⟨⟨_,_,_,rfl⟩,Nat.zero_le _,Kp.refl _,hI,rfl⟩ (by show l.length-0<_;omega) ?_
 rintro ⟨i,s⟩ v h L ⟨⟨a,b,c,rfl⟩,hi,hk,hI',he⟩ ih
 simp only at hi hk hI' he
 refine on (ho_br (fun c1=>?_) (fun c1=>?_))
 ·rw[drop_cons (l:=l) (i:=i) (by omega),runL] at he
  refine onc (And.intro @cN_spl sP) ?_
  have e1:Ex h (st (nw h (.cells 2 [.str ⟨⟨[]⟩⟩,.int .i64 0])) h.n (.cells 2 (cN (l.getD i default)))):=(Ex.refl h).nw.st (Nat.le_refl _)
  refine hx s (l.getD i default) _ _ (hD _ (getD_mem (by omega))) (hm _ _ _ _ e1 hI') (fun h' hk' hI2=>?_)
  cases hb:(step s (l.getD i default)).2 with
  |true=>
   rw[if_pos hb] at he
   refine on ?_
   rw[hb] at hI2
   exact ih (i+1,_) _ _ ⟨⟨_,_,_,rfl⟩,by show i+1≤_;omega,(hk.trans e1.kp).trans hk',hI2,he⟩ (by show l.length-(i+1)<l.length-i;omega)
  |false=>
   rw[hb,if_neg (by decide)] at he
   refine on ?_
   rw[hb] at hI2
   have:=hK h' ((hk.trans e1.kp).trans hk')
   rw[he] at this
   exact this hI2
 ·rw[List.drop_eq_nil_of_le (by omega),runL] at he
  refine on ?_
  have:=hK h hk
  rw[he] at this
  exact this hI'
def sigStep (ks:List ByteArray)(x:Nm):List ByteArray × Bool:=(ins ks x.name,decide (x.name∉ks∧nameOk x))
def sigI (s:Sg)(_:Bool)(ks:List ByteArray)(h:H):Prop:=
 ks.Nodup∧2<h.n∧gt h 0=.cells 2 (cS s)∧gt h 1=.map 9 (ent kS (fun _=>.bool true) ks)∧gt h 2=.cells 1 [.mp 1]
theorem keyStr:keyC Tryz.prog 9=⟨fun v=>wVS v fun s=>Nat.ble s.data.toList.length 1000000⟩:=by kernel_rfl
theorem updC {κ:Type}[DecidableEq κ]{k:κ}{v:AV}:upd (fun _=>v) k v=fun _=>v:=by
 funext j
 unfold upd
 split <;> rfl
theorem c_fits (s:Sg):FnOk (.fn 167 0 (nx []) 1 (nx [.ref 2 0])) 2 (fun x=>[.agg 2 (nx (cN x))]) (sigI s) sigStep (fun x=>x.name.data.toList.length≤900):=by
 intro ks x h K hD hI hK
 obtain⟨hn,h2,g0,g1,g2⟩:=hI
 refine ho_cl ?_
 show Ho (((sem Tryz.prog).C 167).r [.agg 2 (nx (cN x)),.ref 2 0] h K noP)
 refine sem_fn prOk (by kernel_rfl) ?_
 rw[t_167]
 have hk:(keyC Tryz.prog 9).r (.string x.name)=true:=by rw[keyStr];exact ble_t (by omega)
 have fin:∀(b:Bool),b=(sigStep ks x).2→∀es,es=ent kS (fun _=>.bool true) (ins ks x.name)→Ho (K (.bool b) (st (nw h (.cells 2 (cN x))) 1 (.map 9 es))):=by
  intro b hb es he
  subst hb he
  exact hK _ ⟨Nat.le_succ _,fun q hq hq2=>by rw[gt_st_ne _ _ (by omega),gt_nw_ne _ _ (by omega)]⟩ ⟨ins_nodup hn,Nat.lt_succ_of_lt h2,by rw[gt_st_ne _ _ (by omega),gt_nw_ne h _ (by omega)];exact g0,gt_st _ _ _,by rw[gt_st_ne _ _ (by omega),gt_nw_ne h _ (by omega)];exact g2⟩
 refine onc (And.intro hk <| And.intro g1 <| And.intro g2 <| And.intro @s_wMa <| And.intro @s_wKS <| And.intro @s_lkm1 <| And.intro @s_mfS <| And.intro @cN_tb sP) (ho_br (fun c=>?_) (fun c=>?_))
 ·refine onc (And.intro c <| And.intro hk <| And.intro g1 <| And.intro g2 <| And.intro @cN_tb <| And.intro sM sP) ?_
  exact fin false (decide_eq_false fun e=>e.1 c).symm _ (by rw[mset_ent hn c,updC];unfold ins;rw[if_pos c])
 ·refine onc (And.intro c <| And.intro hk <| And.intro g1 <| And.intro g2 <| And.intro @cN_tb <| And.intro sM sP) ?_
  have he:mput (.string x.name) (.bool true) (ent kS (fun _=>.bool true) ks)=ent kS (fun _=>.bool true) (ins ks x.name):=by
   rw[show Value.string x.name=kS x.name from rfl,mput_ent c,updC];unfold ins;rw[if_neg c]
  rw[he]
  refine(c_spelled _ (by omega)).call ?_
  refine onc sP (ho_br (fun c1=>?_) (fun c1=>?_))
  ·refine onc (And.intro c1 sP) ?_
   refine(c_within _ _ _).call ?_
   refine onc c1 ?_
   exact fin _ (decide_eq_decide.2 ⟨fun h=>⟨c,c1,h.1,h.2⟩,fun h=>⟨h.2.f2,h.2.f3⟩⟩) _ rfl
  ·refine onc (And.intro c1 sP) ?_
   exact fin false (decide_eq_false fun e=>c1 e.2.f1).symm _ rfl
theorem sig_run:∀(xs:List Nm) (b:List ByteArray),match namesR xs b with
  |some l=>runL sigStep b xs=(l,true)
  |none=>(runL sigStep b xs).2=false
 |[],b=>rfl
 |x::r,b=>by
  rw[namesR,runL]
  by_cases c:x.name∈b
  ·rw[if_pos c]
   have:(sigStep b x).2=false:=decide_eq_false fun e=>e.1 c
   rw[this,if_neg (by decide)]
  ·rw[if_neg c]
   by_cases c2:nameOk x
   ·have h1:(sigStep b x).2=true:=decide_eq_true ⟨c,c2⟩
    have h2:(sigStep b x).1=b++[x.name]:=by show ins b x.name=_;unfold ins;rw[if_neg c]
    rw[if_pos c2,if_pos h1,h2]
    exact sig_run r _
   ·have:(sigStep b x).2=false:=decide_eq_false fun e=>c2 e.2
    rw[if_neg c2,this,if_neg (by decide)]
theorem sigMo (s:Sg):Mo (sigI s):=by
 rintro b ks h h' e ⟨h1,h2,h3,h4,h5⟩
 have:=e.n
 exact⟨h1,by omega,by rw[e.k _ (by omega),h3],by rw[e.k _ (by omega),h4],by rw[e.k _ h2,h5]⟩
def okI (b:Prop)[Decidable b]:Int:=if b then 0 else 2
theorem c_CheckSig (s:Sg)(hs:smallSg s):Pu Tryz.prog 123 [eS' s] (.int .i64 (okI (sigOk s))):=by
 refine Pu.of prOk (by kernel_rfl) ⟨eS_below _,trivial⟩ ?_
 have hs1:=hs.f1
 have hs2:=hs.f2
 rw[t_123]
 have no:¬sigOk s→∀h,Ho (fin Tryz.prog (.int .i64 (okI (sigOk s))) (.int .i64 2) h):=fun hn h=>fin_i (by unfold okI;rw[if_neg hn])
 have hkt:keyTy Tryz.prog 201=9:=by kernel_rfl
 refine onc sP ?_
 refine(c_within _ _ _).call ?_
 refine onc sP (ho_br (fun c=>?_) (fun c=>?_))
 ·refine onc c ?_
  exact no (fun e=>c ⟨by have:=e.f1;omega,by have:=e.f2;omega⟩) _
 refine onc (And.intro c sP) (ho_br (fun c1=>?_) (fun c1=>?_))
 ·refine onc c1 ?_
  exact no (fun e=>by have:=e.f3;omega) _
 have hc:=Classical.not_not.1 c
 refine onc (And.intro c1 <| And.intro hkt sP) ?_
 refine c_everyN (c_fits s) (sigMo s) s.ck s.cons (by omega) (fun x hx=>by have:=hs.f3 x hx;show _≤900;omega) [] _ ⟨List.nodup_nil,by show 2<0+1+1+1;omega,?_,?_,?_⟩ (fun h3 hk3 hI3=>?_)
 ·simp[s_gs,s_gn,s_nn,s_ns,s_n0,s_bqf]
 ·simp[s_gs,s_gn,s_nn,s_ns,s_n0,s_bqf,s_bqt];rfl
 ·simp[s_gs,s_gn,s_nn,s_ns,s_n0,s_bqt]
 have r1:=sig_run s.cons []
 cases hl:namesR s.cons [] with
 |none=>
  rw[hl] at r1
  simp only at r1
  rw[r1]
  refine on ?_
  exact no (fun e=>by have:=e.f6;unfold sigN at this;rw[hl] at this;cases this) _
 |some l=>
  rw[hl] at r1
  simp only at r1
  rw[r1] at hI3 ⊢
  have hI:=hI3
  obtain⟨_,h2,g0,_,g2⟩:=hI
  simp only
  refine onc (And.intro g0 <| And.intro g2 sP) ?_
  refine c_everyN (c_fits s) (sigMo s) s.fk s.funs (by omega) (fun x hx=>by have:=hs.f4 x hx;show _≤900;omega) l _ hI3 (fun h4 hk4 hI4=>?_)
  have r2:=sig_run s.funs l
  have he:sigN s=(namesR s.funs l).isSome:=by unfold sigN;rw[hl]
  cases hf:namesR s.funs l with
  |none=>
   rw[hf] at r2
   simp only at r2
   rw[r2]
   refine on ?_
   exact no (fun e=>by have:=e.f6;rw[he,hf] at this;cases this) _
  |some l2=>
   rw[hf] at r2
   simp only at r2
   rw[r2] at hI4 ⊢
   obtain⟨_,_,g0',_,_⟩:=hI4
   simp only
   refine onc (And.intro g0' sP) (ho_br (fun c2=>?_) (fun c2=>?_))
   ·refine onc c2 ?_
    exact no (fun e=>c2 e.f4) _
   refine onc (And.intro c2 <| And.intro g0' sP) (ho_br (fun c3=>?_) (fun c3=>?_))
   ·refine onc c3 ?_
    exact no (fun e=>c3 e.f5) _
   refine onc (And.intro c3 sP) ?_
   exact fin_i (by unfold okI;rw[if_pos ⟨by omega,by omega,by omega,Classical.not_not.1 c2,Classical.not_not.1 c3,by rw[he,hf];rfl⟩])
end
end Go.Proofs.YtgmjpmeddajmgaaGreat
namespace Go.Proofs.YtgmjpmeddajmgaaGreat
open Go Go.Avm Go.Bvm
set_option maxRecDepth 100000
set_option linter.unusedVariables false
set_option linter.unusedSimpArgs false
set_option linter.defProp false
noncomputable section
attribute [local irreducible] jn jv br lp ck iff wB wG wRef wSl wCl wAg wTu wStr wFn wIfc wInt wCe wRe wMp wFr ad sb ml lt le eqi nei eq1 isNil un cvt fa len lens ix ixA ixS ixV ld1 ldn sto al bx pt bs ms app cpy sli lkm mup men mst mrg srg snx mnx mtr tas lenm rgT rgE finR mfind mset mput wKey wMa sV sem fin Ho
theorem t_211 (t:Tb)(h:H)(K Pn:KVH)(x0 x1:AV):(compF Tryz.prog (drawsC Tryz.prog) 211).r t [x0,x1] h K Pn=ck true (bx x0 h fun v h=>bx x1 h fun v h=>fa 1 v fun v_1=>ld1 h v_1 fun v_2=>(t.C 169).r [v_2,mkI 0,mkI 19] h (fun v_3 h=>jv (fun v h=>jv (fun v h=>jv (fun v h=>jv (fun v h=>jv K fun k=>wB v_3 (k v h) (k (AV.bool false) h)) fun k=>wG true v_3 (eqi v (mkI 0) fun v=>k v h) (k skipV h)) fun k=>wG true v_3 (len v fun v=>k v h) (k skipV h)) fun k=>wG true v_3 (ld1 h v fun v=>k v h) (k skipV h)) fun k=>wG true v_3 (fa 2 v fun v=>k v h) (k skipV h)) Pn):=by kernel_rfl
theorem t_212 (t:Tb)(h:H)(K Pn:KVH)(x0 x1:AV):(compF Tryz.prog (drawsC Tryz.prog) 212).r t [x0,x1] h K Pn=ck true (bx x0 h fun v h=>bx x1 h fun v h=>fa 1 v fun v_1=>ld1 h v_1 fun v_2=>(t.C 169).r [v_2,AV.int IntKind.i64 (Int.negSucc 999999),mkI 1000000] h (fun v_3 h=>jv (fun v h=>jv (fun v h=>jv (fun v h=>jv (fun v h=>jv K fun k=>wB v_3 (k v h) (k (AV.bool false) h)) fun k=>wG true v_3 (eqi v (mkI 0) fun v=>k v h) (k skipV h)) fun k=>wG true v_3 (len v fun v=>k v h) (k skipV h)) fun k=>wG true v_3 (ld1 h v fun v=>k v h) (k skipV h)) fun k=>wG true v_3 (fa 2 v fun v=>k v h) (k skipV h)) Pn):=by kernel_rfl
theorem t_213 (t:Tb)(h:H)(K Pn:KVH)(x0 x1:AV):(compF Tryz.prog (drawsC Tryz.prog) 213).r t [x0,x1] h K Pn=ck true (bx x0 h fun v h=>bx x1 h fun v_1 h=>fa 0 v fun v_2=>fa 0 v_2 fun v_3=>ld1 h v_3 fun v_4=>len v_4 fun v_5=>sb v_5 (mkI 1) fun v_6=>fa 1 v_1 fun v_7=>ld1 h v_7 fun v_8=>(t.C 169).r [v_8,mkI 0,v_6] h (fun v_9 h=>jv (fun v_10 h=>jv (fun v_11 h=>jv (fun v h=>jv (fun v h=>jv (fun v h=>jv (fun v h=>jv (fun v h=>jv (fun v h=>jv (fun v_12 h=>jv (fun v_13 h=>jv (fun v_14 h=>jv (fun v h=>jv K fun k=>wB v_9 (k v h) (k (AV.bool false) h)) fun k=>wG true v_9 (eqi v_14 v fun v=>k v h) (k skipV h)) fun k=>wG true v_9 (len v_13 fun v=>k v h) (k skipV h)) fun k=>wG true v_9 (ld1 h v_12 fun v=>k v h) (k skipV h)) fun k=>wG true v_9 (fa 2 v_1 fun v=>k v h) (k skipV h)) fun k=>wG true v_9 (ld1 h v fun v=>k v h) (k skipV h)) fun k=>wG true v_9 (fa 1 v fun v=>k v h) (k skipV h)) fun k=>wG true v_9 (ix 2 v v_11 fun v=>k v h) (k skipV h)) fun k=>wG true v_9 (ld1 h v fun v=>k v h) (k skipV h)) fun k=>wG true v_9 (fa 0 v fun v=>k v h) (k skipV h)) fun k=>wG true v_9 (fa 0 v fun v=>k v h) (k skipV h)) fun k=>wG true v_9 (ld1 h v_10 fun v=>k v h) (k skipV h)) fun k=>wG true v_9 (fa 1 v_1 fun v=>k v h) (k skipV h)) Pn):=by kernel_rfl
theorem t_214 (t:Tb)(h:H)(K Pn:KVH)(x0 x1:AV):(compF Tryz.prog (drawsC Tryz.prog) 214).r t [x0,x1] h K Pn=ck true (bx x0 h fun v h=>bx x1 h fun v_1 h=>fa 0 v fun v_2=>fa 1 v_2 fun v_3=>ld1 h v_3 fun v_4=>len v_4 fun v_5=>sb v_5 (mkI 1) fun v_6=>fa 1 v_1 fun v_7=>ld1 h v_7 fun v_8=>(t.C 169).r [v_8,mkI 0,v_6] h (fun v_9 h=>jv (fun v_10 h=>jv (fun v_11 h=>jv (fun v h=>jv (fun v h=>jv (fun v h=>jv (fun v h=>jv (fun v h=>jv (fun v h=>jv (fun v_12 h=>jv (fun v_13 h=>jv (fun v_14 h=>jv (fun v h=>jv K fun k=>wB v_9 (k v h) (k (AV.bool false) h)) fun k=>wG true v_9 (eqi v_14 v fun v=>k v h) (k skipV h)) fun k=>wG true v_9 (len v_13 fun v=>k v h) (k skipV h)) fun k=>wG true v_9 (ld1 h v_12 fun v=>k v h) (k skipV h)) fun k=>wG true v_9 (fa 2 v_1 fun v=>k v h) (k skipV h)) fun k=>wG true v_9 (ld1 h v fun v=>k v h) (k skipV h)) fun k=>wG true v_9 (fa 1 v fun v=>k v h) (k skipV h)) fun k=>wG true v_9 (ix 2 v v_11 fun v=>k v h) (k skipV h)) fun k=>wG true v_9 (ld1 h v fun v=>k v h) (k skipV h)) fun k=>wG true v_9 (fa 1 v fun v=>k v h) (k skipV h)) fun k=>wG true v_9 (fa 0 v fun v=>k v h) (k skipV h)) fun k=>wG true v_9 (ld1 h v_10 fun v=>k v h) (k skipV h)) fun k=>wG true v_9 (fa 1 v_1 fun v=>k v h) (k skipV h)) Pn):=by kernel_rfl
theorem t_215 (t:Tb)(h:H)(K Pn:KVH)(x0 x1:AV):(compF Tryz.prog (drawsC Tryz.prog) 215).r t [x0,x1] h K Pn=ck true (bx x0 h fun v h=>bx x1 h fun v_1 h=>fa 0 v fun v_2=>fa 1 v_2 fun v_3=>ld1 h v_3 fun v_4=>len v_4 fun v_5=>sb v_5 (mkI 1) fun v_6=>fa 1 v_1 fun v_7=>ld1 h v_7 fun v_8=>(t.C 169).r [v_8,mkI 0,v_6] h (fun v_9 h=>jv (fun v_10 h=>jv (fun v_11 h=>jv (fun v h=>jv (fun v h=>jv (fun v h=>jv (fun v h=>jv (fun v h=>jv (fun v h=>jv (fun v_12 h=>jv (fun v_13 h=>jv (fun v_14 h=>jv (fun v h=>jv K fun k=>wB v_9 (k v h) (k (AV.bool false) h)) fun k=>wG true v_9 (lt v_14 v fun v=>k v h) (k skipV h)) fun k=>wG true v_9 (len v_13 fun v=>k v h) (k skipV h)) fun k=>wG true v_9 (ld1 h v_12 fun v=>k v h) (k skipV h)) fun k=>wG true v_9 (fa 2 v_1 fun v=>k v h) (k skipV h)) fun k=>wG true v_9 (ld1 h v fun v=>k v h) (k skipV h)) fun k=>wG true v_9 (fa 1 v fun v=>k v h) (k skipV h)) fun k=>wG true v_9 (ix 2 v v_11 fun v=>k v h) (k skipV h)) fun k=>wG true v_9 (ld1 h v fun v=>k v h) (k skipV h)) fun k=>wG true v_9 (fa 1 v fun v=>k v h) (k skipV h)) fun k=>wG true v_9 (fa 0 v fun v=>k v h) (k skipV h)) fun k=>wG true v_9 (ld1 h v_10 fun v=>k v h) (k skipV h)) fun k=>wG true v_9 (fa 1 v_1 fun v=>k v h) (k skipV h)) Pn):=by kernel_rfl
theorem t_216 (t:Tb)(h:H)(K Pn:KVH)(x0 x1:AV):(compF Tryz.prog (drawsC Tryz.prog) 216).r t [x0,x1] h K Pn=ck true (bx x0 h fun v h=>bx x1 h fun v h=>fa 1 v fun v_1=>ld1 h v_1 fun v_2=>(t.C 169).r [v_2,mkI 0,mkI 19] h (fun v_3 h=>jv (fun v h=>jv (fun v h=>jv (fun v h=>jv (fun v h=>jv K fun k=>wB v_3 (k v h) (k (AV.bool false) h)) fun k=>wG true v_3 (eqi v (mkI 2) fun v=>k v h) (k skipV h)) fun k=>wG true v_3 (len v fun v=>k v h) (k skipV h)) fun k=>wG true v_3 (ld1 h v fun v=>k v h) (k skipV h)) fun k=>wG true v_3 (fa 2 v fun v=>k v h) (k skipV h)) Pn):=by kernel_rfl
theorem t_217 (t:Tb)(h:H)(K Pn:KVH)(x0 x1:AV):(compF Tryz.prog (drawsC Tryz.prog) 217).r t [x0,x1] h K Pn=ck true (bx x0 h fun v h=>bx x1 h fun v h=>fa 1 v fun v_1=>ld1 h v_1 fun v_2=>eqi v_2 (mkI 0) fun v_3=>jv (fun v h=>jv (fun v h=>jv (fun v h=>jv (fun v h=>jv K fun k=>wB v_3 (k v h) (k (AV.bool false) h)) fun k=>wG true v_3 (eqi v (mkI 2) fun v=>k v h) (k skipV h)) fun k=>wG true v_3 (len v fun v=>k v h) (k skipV h)) fun k=>wG true v_3 (ld1 h v fun v=>k v h) (k skipV h)) fun k=>wG true v_3 (fa 2 v fun v=>k v h) (k skipV h)):=by kernel_rfl
theorem t_207 (t:Tb)(h:H)(K Pn:KVH):(compF Tryz.prog (drawsC Tryz.prog) 207).r t [] h K Pn=ck true (al 16 [AV.nilf,AV.nilf,AV.nilf,AV.nilf,AV.nilf,AV.nilf,AV.nilf,AV.nilf,AV.nilf,AV.nilf,AV.nilf,AV.nilf,AV.nilf,AV.nilf,AV.nilf,AV.nilf] h fun v h=>pt 1 1 (AV.fn 211 0 (fun x=>AV.any) 0 fun x=>AV.any) [AV.nilf,AV.nilf,AV.nilf,AV.nilf,AV.nilf,AV.nilf,AV.nilf,AV.nilf,AV.nilf,AV.nilf,AV.nilf,AV.nilf,AV.nilf,AV.nilf,AV.nilf,AV.nilf] fun cs=>pt 2 1 (AV.fn 212 0 (fun x=>AV.any) 0 fun x=>AV.any) cs fun cs=>pt 3 1 (AV.fn 213 0 (fun x=>AV.any) 0 fun x=>AV.any) cs fun cs=>pt 4 1 (AV.fn 214 0 (fun x=>AV.any) 0 fun x=>AV.any) cs fun cs=>pt 5 1 (AV.fn 215 0 (fun x=>AV.any) 0 fun x=>AV.any) cs fun cs=>pt 8 1 (AV.fn 216 0 (fun x=>AV.any) 0 fun x=>AV.any) cs fun cs=>al 16 [AV.nilf,AV.nilf,AV.nilf,AV.nilf,AV.nilf,AV.nilf,AV.nilf,AV.nilf,AV.nilf,AV.nilf,AV.nilf,AV.nilf,AV.nilf,AV.nilf,AV.nilf,AV.nilf] h fun v_1 h=>sto 16 h v_1 (AV.agg 16 (nx cs)) fun h=>jn (fun l h=>e2 l fun x x_1=>ldn 16 h x fun v=>sto 16 h x_1 v fun h=>wRef x_1 (fun x x_2=>ldn 16 h x_1 fun v=>K v h) fun x x_2=>none) fun k=>lp (fun L l h=>e6 l fun x x_1 x_2 x_3 x_4 x_5=>lt x_2 (mkI 16) fun v=>jn (fun l h=>e4 l fun x x_6 x_7 x_8=>jn (fun l h=>e6 l fun x x_9 x_10 x_11 x_12 x_13=>ad x_10 (mkI 1) fun v=>L [x,x_9,v,x_11,x_12,x_13] h) fun k=>lt (mkI 0) x_6 fun v=>jv (fun v_2 h=>jv (fun v_3 h=>jv (fun v_4 h=>jv (fun v_5 h=>jv (fun v h=>jn k fun k=>wB v (ixA 16 1 x_7 x_6 fun v_6=>sto 1 h v_6 (AV.fn 217 0 (fun x=>AV.any) 0 fun x=>AV.any) fun h=>k [v,x,x_6,x_6,x_7,x_8] h) (k [v,x,x_6,x_6,x_7,x_8] h)) fun k=>wB v (k v_5 h) (k (AV.bool false) h)) fun k=>wG true v (Bvm.isNilF v_4 fun c=>k (AV.bool (false ^^ c)) h) (k skipV h)) fun k=>wG true v (ld1 h v_3 fun v=>k v h) (k skipV h)) fun k=>wG true v (ixA 16 1 x_7 v_2 fun v=>k v h) (k skipV h)) fun k=>wG true v (k x_6 h) (k skipV h)) fun k_1=>wB v (k_1 [v,x_2,x_4,x_5] h) (k [x_4,x_5] h)) [AV.any,AV.any,mkI 0,AV.any,v_1,v] h):=by kernel_rfl
theorem s_ixA {n es o f:Nat}{i:Int}{K:KV}(h1:0≤i)(h2:i<n):ixA n es (.ref o f) (.int .i64 i) K=K (.ref o (f+i.toNat*es)):=by
 unfold ixA
 rw[s_wInt,nonneg_of h1,nn_of h1,s_ck,ble_t (show i.toNat.succ≤n by omega),s_ck,s_wRefr];rfl
theorem s_nF1 {F:Bool→Ans}:isNilF .nilf F=F true:=rfl
theorem s_nF2 {f na nb:Nat}{a b:Nat→AV}{F:Bool→Ans}:isNilF (.fn f na a nb b) F=F false:=rfl
theorem s_splS {n:Nat}{vs l:LA}{b:AV}:spl (n+1) vs (b::l)=b::spl n vs l:=rfl
theorem s_spl00 {a b:AV}{l:LA}:spl 0 [a] (b::l)=a::l:=rfl
theorem c_variable (s:Sg)(t:Tm):Pu Tryz.prog 211 [eS' s,eT t] (.bool (decide (t.kids.length=0∧0≤t.n∧t.n≤19))):=by
 refine Pu.of prOk (by kernel_rfl) ⟨eS_below _,eT_below _,trivial⟩ ?_
 rw[t_211]
 generalize he:decide (t.kids.length=0∧0≤t.n∧t.n≤19)=b
 refine onc sP ?_
 refine(c_within _ _ _).call ?_
 refine onc sP (ho_br (fun c=>?_) (fun c=>?_))
 ·refine onc (And.intro c sP) ?_
  exact fin_b ((decide_eq_decide.2 ⟨fun h=>⟨by omega,c⟩,fun h=>by omega⟩).trans he)
 ·refine onc (And.intro c sP) ?_
  exact fin_b ((decide_eq_false fun e=>c e.2).symm.trans he)
theorem c_integer (s:Sg)(t:Tm):Pu Tryz.prog 212 [eS' s,eT t] (.bool (decide (t.kids.length=0 ∧ -1000000≤t.n∧t.n≤1000000))):=by
 refine Pu.of prOk (by kernel_rfl) ⟨eS_below _,eT_below _,trivial⟩ ?_
 rw[t_212]
 generalize he:decide (t.kids.length=0 ∧ -1000000≤t.n∧t.n≤1000000)=b
 refine onc sP ?_
 refine(c_within _ _ _).call ?_
 refine onc sP (ho_br (fun c=>?_) (fun c=>?_))
 ·refine onc (And.intro c sP) ?_
  exact fin_b ((decide_eq_decide.2 ⟨fun h=>⟨by omega,c⟩,fun h=>by omega⟩).trans he)
 ·refine onc (And.intro c sP) ?_
  exact fin_b ((decide_eq_false fun e=>c e.2).symm.trans he)
theorem c_let1 (s:Sg)(t:Tm):Pu Tryz.prog 216 [eS' s,eT t] (.bool (decide (t.kids.length=2∧0≤t.n∧t.n≤19))):=by
 refine Pu.of prOk (by kernel_rfl) ⟨eS_below _,eT_below _,trivial⟩ ?_
 rw[t_216]
 generalize he:decide (t.kids.length=2∧0≤t.n∧t.n≤19)=b
 refine onc sP ?_
 refine(c_within _ _ _).call ?_
 refine onc sP (ho_br (fun c=>?_) (fun c=>?_))
 ·refine onc (And.intro c sP) ?_
  exact fin_b ((decide_eq_decide.2 ⟨fun h=>⟨by omega,c⟩,fun h=>by omega⟩).trans he)
 ·refine onc (And.intro c sP) ?_
  exact fin_b ((decide_eq_false fun e=>c e.2).symm.trans he)
theorem c_pair (s:Sg)(t:Tm):Pu Tryz.prog 217 [eS' s,eT t] (.bool (decide (t.kids.length=2∧t.n=0))):=by
 refine Pu.of prOk (by kernel_rfl) ⟨eS_below _,eT_below _,trivial⟩ ?_
 rw[t_217]
 generalize he:decide (t.kids.length=2∧t.n=0)=b
 refine onc sP (ho_br (fun c=>?_) (fun c=>?_))
 ·refine onc (And.intro c sP) ?_
  exact fin_b ((decide_eq_decide.2 ⟨fun h=>⟨by omega,c⟩,fun h=>by omega⟩).trans he)
 ·refine onc (And.intro c sP) ?_
  exact fin_b ((decide_eq_false fun e=>c e.2).symm.trans he)
theorem c_con1 (s:Sg)(t:Tm)(hs:s.cons.length≤1000):Pu Tryz.prog 213 [eS' s,eT t] (.bool (decide ((0≤t.n∧t.n<s.cons.length)∧(t.kids.length:Int)=(s.cons.getD t.n.toNat default).args))):=by
 refine Pu.of prOk (by kernel_rfl) ⟨eS_below _,eT_below _,trivial⟩ ?_
 rw[t_213]
 generalize he:decide ((0≤t.n∧t.n<s.cons.length)∧(t.kids.length:Int)=(s.cons.getD t.n.toNat default).args)=b
 refine onc sP ?_
 refine(c_within _ _ _).call ?_
 refine onc sP (ho_br (fun c=>?_) (fun c=>?_))
 ·refine onc (And.intro c sP) ?_
  exact fin_b ((decide_eq_decide.2 ⟨fun h=>⟨by omega,h⟩,fun h=>h.2⟩).trans he)
 ·refine onc (And.intro c sP) ?_
  exact fin_b ((decide_eq_false fun e=>c (by omega)).symm.trans he)
theorem c_fun1 (s:Sg)(t:Tm)(hs:s.funs.length≤1000):Pu Tryz.prog 214 [eS' s,eT t] (.bool (decide ((0≤t.n∧t.n<s.funs.length)∧(t.kids.length:Int)=(s.funs.getD t.n.toNat default).args))):=by
 refine Pu.of prOk (by kernel_rfl) ⟨eS_below _,eT_below _,trivial⟩ ?_
 rw[t_214]
 generalize he:decide ((0≤t.n∧t.n<s.funs.length)∧(t.kids.length:Int)=(s.funs.getD t.n.toNat default).args)=b
 refine onc sP ?_
 refine(c_within _ _ _).call ?_
 refine onc sP (ho_br (fun c=>?_) (fun c=>?_))
 ·refine onc (And.intro c sP) ?_
  exact fin_b ((decide_eq_decide.2 ⟨fun h=>⟨by omega,h⟩,fun h=>h.2⟩).trans he)
 ·refine onc (And.intro c sP) ?_
  exact fin_b ((decide_eq_false fun e=>c (by omega)).symm.trans he)
theorem c_part1 (s:Sg)(t:Tm)(hs:s.funs.length≤1000):Pu Tryz.prog 215 [eS' s,eT t] (.bool (decide ((0≤t.n∧t.n<s.funs.length)∧(t.kids.length:Int)<(s.funs.getD t.n.toNat default).args))):=by
 refine Pu.of prOk (by kernel_rfl) ⟨eS_below _,eT_below _,trivial⟩ ?_
 rw[t_215]
 generalize he:decide ((0≤t.n∧t.n<s.funs.length)∧(t.kids.length:Int)<(s.funs.getD t.n.toNat default).args)=b
 refine onc sP ?_
 refine(c_within _ _ _).call ?_
 refine onc sP (ho_br (fun c=>?_) (fun c=>?_))
 ·refine onc (And.intro c sP) ?_
  exact fin_b ((decide_eq_decide.2 ⟨fun h=>⟨by omega,h⟩,fun h=>h.2⟩).trans he)
 ·refine onc (And.intro c sP) ?_
  exact fin_b ((decide_eq_false fun e=>c (by omega)).symm.trans he)
abbrev fnV (f:Nat):AV:=.fn f 0 (fun _=>.any) 0 (fun _=>.any)
def tbl:LA:=[.nilf,fnV 211,fnV 212,fnV 213,fnV 214,fnV 215,fnV 217,fnV 217,fnV 216,fnV 217,fnV 217,fnV 217,fnV 217,fnV 217,fnV 217,fnV 217]
def tabF (i:Nat):Nat→AV
 |1=>fnV 211
 |2=>fnV 212
 |3=>fnV 213
 |4=>fnV 214
 |5=>fnV 215
 |8=>fnV 216
 |0=>.nilf
 |j=>if j<i then fnV 217 else .nilf
def tab16 (i:Nat):LA:=[tabF i 0,tabF i 1,tabF i 2,tabF i 3,tabF i 4,tabF i 5,tabF i 6,tabF i 7,tabF i 8,tabF i 9,tabF i 10,tabF i 11,tabF i 12,tabF i 13,tabF i 14,tabF i 15]
theorem tab_S (i:Nat)(h1:0<i)(h2:i<16):((∃f,nx (tab16 i) i=fnV f)∧tab16 (i+1)=tab16 i)∨(nx (tab16 i) i=.nilf∧spl i [fnV 217] (tab16 i)=tab16 (i+1)):=by
 have:i=1∨i=2∨i=3∨i=4∨i=5∨i=6∨i=7∨i=8∨i=9∨i=10∨i=11∨i=12∨i=13∨i=14∨i=15:=by omega
 rcases this with rfl|rfl|rfl|rfl|rfl|rfl|rfl|rfl|rfl|rfl|rfl|rfl|rfl|rfl|rfl
 all_goals first|exact .inl ⟨⟨_,rfl⟩,rfl⟩|exact .inr ⟨rfl,rfl⟩
theorem c_rules:Pu Tryz.prog 207 [] (.agg 16 (nx tbl)):=by
 refine Pu.of prOk (by kernel_rfl) trivial ?_
 rw[t_207]
 refine onc (And.intro @s_splS @s_spl00) ?_
 refine ho_lp (fun (i:Nat) v h=>(∃a b c,v=[a,b,.int .i64 i,c,.ref 1 0,.ref 0 0])∧h.n=2∧gt h 0=.cells 16 (tb 16 fun _=>.nilf)∧gt h 1=.cells 16 (tab16 i)∧i≤16) (fun i=>16-i) 0 ⟨⟨_,_,_,rfl⟩,rfl,by simp[s_gs,s_gn,s_nn,s_ns,s_n0,s_bqf,s_bqt];rfl,by simp[s_gs,s_gn,s_nn,s_ns,s_n0,s_bqf,s_bqt];rfl,Nat.zero_le _⟩ (by omega) ?_
 rintro i v h L ⟨⟨a,b,c,rfl⟩,hn,g0,g1,hi⟩ ih
 have nxt:∀(a b c:AV) (h':H),h'.n=2→gt h' 0=.cells 16 (tb 16 fun _=>.nilf)→gt h' 1=.cells 16 (tab16 (i+1))→i<16→Ho (L [a,b,.int .i64 (i+1:Nat),c,.ref 1 0,.ref 0 0] h'):=fun a b c h' h1 h2 h3 h4=>ih (i+1) _ _ ⟨⟨_,_,_,rfl⟩,h1,h2,h3,h4⟩ (by omega)
 refine on (ho_br (fun c1=>?_) (fun c1=>?_))
 ·refine on (ho_br (fun c2=>?_) (fun c2=>?_))
  ·rcases tab_S i (by omega) (by omega) with⟨⟨f,e1⟩,e2⟩|⟨e1,e2⟩
   ·refine onc (And.intro c2 <| And.intro g1 <| And.intro e1 <| And.intro @s_ixA <| And.intro @s_nF1 <| And.intro @s_nF2 <| And.intro @Nat.mul_one @Int.toNat_natCast) ?_
    exact nxt _ _ _ _ hn g0 (by rw[e2];exact g1) (by omega)
   ·refine onc (And.intro c2 <| And.intro g1 <| And.intro e1 <| And.intro e2 <| And.intro @s_ixA <| And.intro @s_nF1 <| And.intro @s_nF2 <| And.intro @Nat.mul_one @Int.toNat_natCast) ?_
    exact nxt _ _ _ _ hn (by rw[gt_st_ne _ _ (by omega)];exact g0) (gt_st _ _ _) (by omega)
  ·have:i=0:=by omega
   subst this
   refine onc c2 ?_
   exact nxt _ _ _ _ hn g0 g1 (by omega)
 ·have:i=16:=by omega
  subst this
  have e1:spl 0 (tb 16 (nx (tab16 16))) (tb 16 fun _=>.nilf)=tbl:=rfl
  refine onc (And.intro g0 <| And.intro g1 <| And.intro e1 sP) ?_
  exact ho_fin (Fzs.of (allN_iff.2 fun j hj=>by
   have:j=0∨j=1∨j=2∨j=3∨j=4∨j=5∨j=6∨j=7∨j=8∨j=9∨j=10∨j=11∨j=12∨j=13∨j=14∨j=15:=by omega
   rcases this with rfl|rfl|rfl|rfl|rfl|rfl|rfl|rfl|rfl|rfl|rfl|rfl|rfl|rfl|rfl|rfl
   all_goals first|exact trivial|exact⟨trivial,trivial⟩))
end
end Go.Proofs.YtgmjpmeddajmgaaGreat
namespace Go.Proofs.YtgmjpmeddajmgaaGreat
open Go Go.Avm Go.Bvm
set_option maxRecDepth 100000
set_option linter.unusedVariables false
set_option linter.unusedSimpArgs false
set_option linter.defProp false
noncomputable section
attribute [local irreducible] jn jv br lp ck iff wB wG wRef wSl wCl wAg wTu wStr wFn wIfc wInt wCe wRe wMp wFr ad sb ml lt le eqi nei eq1 isNil un cvt fa len lens ix ixA ixS ixV ld1 ldn sto al bx pt bs ms app cpy sli lkm mup men mst mrg srg snx mnx mtr tas lenm rgT rgE finR mfind mset mput wKey wMa sV sem fin Ho
theorem t_184 (t:Tb)(h:H)(K Pn:KVH)(x0 x1:AV):(compF Tryz.prog (drawsC Tryz.prog) 184).r t [x0,x1] h K Pn=ck true (bx x0 h fun v h=>bx x1 h fun v_1 h=>al 1 [AV.bool false] h fun v_2 h=>(t.C 207).r [] h (fun v_3 h=>al 16 [AV.nilf,AV.nilf,AV.nilf,AV.nilf,AV.nilf,AV.nilf,AV.nilf,AV.nilf,AV.nilf,AV.nilf,AV.nilf,AV.nilf,AV.nilf,AV.nilf,AV.nilf,AV.nilf] h fun v_4 h=>al 1 [mkI 0] h fun v_5 h=>sto 16 h v_4 v_3 fun h=>sto 1 h v_5 (mkI 0) fun h=>ldn 3 h v_1 fun v_6=>(t.C 165).r [v_6] h (fun v_7 h=>jn (fun l h=>e1 l fun x=>sto 1 h x (AV.bool true) fun h=>wRef x (fun x_1 x_2=>ld1 h x fun v=>K v h) fun x x_1=>none) fun k=>rgT t v_7 (rdOf Tryz.prog 184 0 [38,13,12,8,7,6,5,4,2] 39) [AV.any,AV.any,AV.any,AV.any,AV.any,v_5,v_4,v_2,v] h fun n h=>rgE n (k [v_2] h) (wRef v_2 (fun x x_1=>ld1 h v_2 fun v=>K v h) fun x x_1=>none) fun n=>iff (n.beq 0) (k [v_2] h) none) Pn) Pn):=by kernel_rfl
theorem t_183 (t:Tb)(h:H)(K Pn:KVH)(x0 x1:AV):(compF Tryz.prog (drawsC Tryz.prog) 183).r t [x0,x1] h K Pn=ck true (bx x0 h fun v h=>ldn 2 h x1 fun v_1=>ldn 3 h v fun v=>(t.C 184).r [v_1,v] h (fun v h=>K v h) Pn):=by kernel_rfl
theorem t_139 (t:Tb)(h:H)(K Pn:KVH)(x0 x1:AV):(compF Tryz.prog (drawsC Tryz.prog) 139).r t [x0,x1] h K Pn=ck true (bx x0 h fun v h=>ldn 2 h v fun v_1=>(t.C 123).r [v_1] h (fun v_2 h=>eqi v_2 (mkI 0) fun v_3=>jv (fun v_4 h=>jv (fun v h=>jv (fun v h=>jv K fun k=>wB v_3 (k v h) (k (AV.bool false) h)) fun k=>wG true v_3 ((t.C 182).r [v_4,v] h k Pn) (k skipV h)) fun k=>wG true v_3 (k (AV.fn 183 0 (nx []) 1 (nx [v])) h) (k skipV h)) fun k=>wG true v_3 (k x1 h) (k skipV h)) Pn):=by kernel_rfl
theorem t_86 (t:Tb)(h:H)(K Pn:KVH)(x0 x1:AV):(compF Tryz.prog (drawsC Tryz.prog) 86).r t [x0,x1] h K Pn=ck true (bx x0 h fun v h=>bx x1 h fun v_1 h=>ldn 2 h v fun v=>ldn 3 h v_1 fun v_2=>pt 0 3 v_2 [mkI 0,mkI 0,AV.fz Fz.nil 0 0 fun _ _=>AV.any] fun cs=>bs 1 3 3 cs h fun v_3 h=>(t.C 139).r [v,v_3] h (fun v h=>un v fun v=>jn (fun l h=>K (mkI 0) h) fun k=>wB v (K (mkI 2) h) (k [] h)) Pn):=by kernel_rfl
theorem r_184_0 (t:Tb)(o:Nat)(h:H)(K:KVH)(y0 y1 y2 y3 y4 y5 y6 y7 y8 x0 x1:AV):(compR Tryz.prog (drawsC Tryz.prog) (rdOf Tryz.prog 184 0 [38,13,12,8,7,6,5,4,2] 39)).r t o [y0,y1,y2,y3,y4,y5,y6,y7,y8] [x0,x1] h K=ck true (al 3 [mkI 0,mkI 0,AV.fz Fz.nil 0 0 fun _ _=>AV.any] h fun v h=>sto 3 h v x0 fun h=>wFr (gt h o) fun cd1 vs1 s1=>ck (s1.beq 0) (jn (fun l h=>finR o K 0 (AV.bool true) h) fun k=>ld1 (st h o (CO.frm cd1 vs1 1)) y5 fun v_1=>ad v_1 (mkI 1) fun v_2=>sto 1 (st h o (CO.frm cd1 vs1 1)) y5 v_2 fun h=>ld1 h y5 fun v_3=>lt (mkI 40) v_3 fun v_4=>jv (fun v_5 h=>jv (fun v_6 h=>jv (fun v_7 h=>jv (fun v_8 h=>jv (fun v_9 h=>jv (fun v_10 h=>jv (fun v_11 h=>jv (fun v_12 h=>jv (fun v_13 h=>jv (fun v_14 h=>jv (fun v_15 h=>jv (fun v h=>jv (fun v h=>jv (fun v h=>jv (fun v h=>jv (fun v h=>jv (fun v h=>jv (fun v h=>jn k fun k=>wB v (sto 1 h y7 (AV.bool false) fun h=>finR o K 2 (AV.bool false) h) (k [] h)) fun k=>wB v_12 (k (AV.bool true) h) (k v h)) fun k=>wG false v_12 (un v fun v=>k v h) (k skipV h)) fun k=>wG false v_12 (wFn v (fun g na a nb b=>(t.C g).r (ap (tb na a) (v_15::v_13::tb nb b)) h k fun a a_1=>none) fun o=>(t.R o).r [v_15,v_13] h k fun a a_1=>none) (k skipV h)) fun k=>wG false v_12 (ld1 h v fun v=>k v h) (k skipV h)) fun k=>wG false v_12 (ixA 16 1 y6 v fun v=>k v h) (k skipV h)) fun k=>wG false v_12 (ld1 h v fun v=>k v h) (k skipV h)) fun k=>wG false v_12 (fa 0 v fun v=>k v h) (k skipV h)) fun k=>wG false v_12 (pt 0 2 v_14 [AV.fz Fz.nil 0 0 fun _ _=>AV.any,AV.fz Fz.nil 0 0 fun _ _=>AV.any] fun cs=>k (AV.agg 2 (nx cs)) h) (k skipV h)) fun k=>wG false v_12 (ldn 2 h y8 fun v=>k v h) (k skipV h)) fun k=>wG false v_12 (ldn 3 h v fun v=>k v h) (k skipV h)) fun k=>wB v_7 (k (AV.bool true) h) (k v_11 h)) fun k=>wG false v_7 (un v_10 fun v=>k v h) (k skipV h)) fun k=>wG false v_7 ((t.C 169).r [v_9,mkI 1,mkI 15] h k fun a a_1=>none) (k skipV h)) fun k=>wG false v_7 (ld1 h v_8 fun v=>k v h) (k skipV h)) fun k=>wG false v_7 (fa 0 v fun v=>k v h) (k skipV h)) fun k=>wB v_4 (k (AV.bool true) h) (k v_6 h)) fun k=>wG false v_4 (lt (mkI 12) v_5 fun v=>k v h) (k skipV h)) fun k=>wG false v_4 (k x1 h) (k skipV h))):=by kernel_rfl
def sG:=And.intro @s_gs <| And.intro @s_gn <| And.intro @s_nn <| And.intro @s_ns <| And.intro @s_n0 <| And.intro @s_bqt <| And.intro @s_bqf <| And.intro @s_ct @s_cf
theorem c_tnodes (t:Tm){h:H}{K:KVH}(hk:Ho (K (.fn 201 0 (nx []) 1 (nx [.ref h.n 0])) (nw h (.cells 3 (cT t))))):Ho (((sem Tryz.prog).C 165).r [eT t] h K noP):=by
 refine sem_fn prOk (by kernel_rfl) ?_
 rw[t_165]
 refine onc sT ?_
 exact hk
theorem rg_tnodes {σ:Type}{I:Bool→σ→H→Prop}{step:σ→Tm × Int→σ × Bool}(hm:Mo I){cd:Rnd}{vs:LA}{hs:H}{ob:Nat}{t:Tm}{s0:σ}{K:Nat→H→Ans}(hf:Few t)(hb:ob<hs.n)(hg:gt hs ob=.cells 3 (cT t))(hI:I true s0 (nw hs (.frm cd vs 0)))
  (rd:∀(s:σ) (x:Tm × Int) (h:H) (K:KVH),x∈pre t 1→I true s h→(∀h',Kp hs.n h h'→I (step s x).2 (step s x).1 h'→Ho (K (.bool (step s x).2) h'))→Ho (wFr (gt h hs.n) fun cd vs st=>ck (Nat.beq st 0) ((compR Tryz.prog (drawsC Tryz.prog) cd).r (sem Tryz.prog) hs.n vs [eT x.1,.int .i64 x.2] h K)))
  (en:∀h',I (runL step s0 (pre t 1)).2 (runL step s0 (pre t 1)).1 h'→Ho (wFr (gt h' hs.n) fun _ _ s=>K s (kill h' hs.n))):Ho (rgT (sem Tryz.prog) (.fn 201 0 (nx []) 1 (nx [.ref ob 0])) cd vs hs K):=by
 unfold rgT
 rw[s_wFn]
 show Ho (((sem Tryz.prog).C 201).r [.yl hs.n,.ref ob 0] (nw hs (.frm cd vs 0)) (fun _ h'=>wFr (gt h' hs.n) fun _ _ s=>K s (kill h' hs.n)) noP)
 refine sem_fn prOk (by kernel_rfl) ?_
 rw[t_201]
 refine onc (And.intro hg sT) ?_
 have e:Ex (nw hs (.frm cd vs 0)) (st (nw (nw (nw hs (.frm cd vs 0)) (.cells 1 [.yl hs.n])) (.cells 1 [.nilf])) (hs.n+1+1) (.cells 1 [.fn 202 0 (nx []) 2 (nx [.ref (hs.n+1) 0,.ref (hs.n+1+1) 0])])):=(Ex.refl _).nw.nw.st (Nat.le_succ _)
 refine c_visit (o:=hs.n) (step:=step) (D:=fun x=>x∈pre t 1) (fun s a h K hD hI hK=>sem_rnd prOk (rd s a h K hD hI hK)) hm (Nat.lt_succ_self _) (by omega) t 1000 1 s0 _ _ hf.B (by omega) (by omega) (fun _ h=>h) (by show hs.n+1<hs.n+1+1+1;omega) (by show hs.n+1+1<hs.n+1+1+1;omega) ?_ ?_ (hm _ _ _ _ e hI) (fun h' hk' hI'=>?_)
 ·simp[s_gs,s_gn,s_nn,s_bqt,s_bqf]
 ·simp[s_gs,s_bqt]
 ·refine on ?_
  exact en h' hI'
def fStep (s:Sg)(m:Int)(x:Tm × Int):Int × Bool:=(m+1,decide (m+1≤40∧x.2≤12∧nodeB s x.1=true))
def fI (s:Sg)(b:Bool)(m:Int)(h:H):Prop:=
 (0≤m∧m≤41∧(b=true→m≤40))∧6<h.n∧gt h 0=.cells 2 (cS s)∧gt h 2=.cells 1 [.bool false]∧gt h 3=.cells 16 tbl∧gt h 4=.cells 1 [.int .i64 m] ∧
 gt h 6=.frm (rdOf Tryz.prog 184 0 [38,13,12,8,7,6,5,4,2] 39) [.any,.any,.any,.any,.any,.ref 4 0,.ref 3 0,.ref 2 0,.ref 0 0] (bif b then 0 else 2)
theorem fMo (s:Sg):Mo (fI s):=by
 rintro b m h h' e ⟨h0,h1,h2,h3,h4,h5,h6⟩
 have:=e.n
 exact⟨h0,by omega,by rw[e.k _ (by omega),h2],by rw[e.k _ (by omega),h3],by rw[e.k _ (by omega),h4],by rw[e.k _ (by omega),h5],by rw[e.k _ h1,h6]⟩
theorem nodeB_no {s:Sg}{t:Tm}(h:t.op<1∨15<t.op):nodeB s t=false:=by
 unfold nodeB
 rw[if_neg (by omega),if_neg (by omega),if_neg (by omega),if_neg (by omega),if_neg (by omega),if_neg (by omega)]
 exact decide_eq_false fun e=>by omega
theorem tbl_at (s:Sg)(t:Tm)(hs:s.cons.length≤1000)(hf:s.funs.length≤1000)(h1:1≤t.op)(h2:t.op≤15):∃f,nx tbl t.op.toNat=fnV f∧Pu Tryz.prog f [eS' s,eT t] (.bool (nodeB s t)):=by
 have hc:t.op=1∨t.op=2∨t.op=3∨t.op=4∨t.op=5∨t.op=8∨(t.op=6∨t.op=7∨t.op=9∨t.op=10∨t.op=11∨t.op=12∨t.op=13∨t.op=14∨t.op=15):=by omega
 unfold nodeB
 rcases hc with h|h|h|h|h|h|h
 ·rw[h];exact⟨_,rfl,c_variable s t⟩
 ·rw[h];exact⟨_,rfl,c_integer s t⟩
 ·rw[h];exact⟨_,rfl,c_con1 s t hs⟩
 ·rw[h];exact⟨_,rfl,c_fun1 s t hf⟩
 ·rw[h];exact⟨_,rfl,c_part1 s t hf⟩
 ·rw[h];exact⟨_,rfl,c_let1 s t⟩
 ·have key:Pu Tryz.prog 217 [eS' s,eT t] (.bool (decide (((6≤t.op∧t.op≤7)∨(9≤t.op∧t.op≤15))∧t.kids.length=2∧t.n=0))):=by
   have:=c_pair s t
   rwa [show decide (t.kids.length=2∧t.n=0)=decide (((6≤t.op∧t.op≤7)∨(9≤t.op∧t.op≤15))∧t.kids.length=2∧t.n=0) from decide_eq_decide.2 ⟨fun h=>⟨by omega,h⟩,fun h=>h.2⟩] at this
  rcases h with h|h|h|h|h|h|h|h|h <;> (rw[h] at key ⊢;exact⟨_,rfl,key⟩)
theorem cS_spl {s:Sg}{a b:AV}:spl 0 (cS s) [a,b]=cS s:=rfl
theorem f_round (s:Sg)(hs:s.cons.length≤1000)(hf:s.funs.length≤1000)(m:Int)(x:Tm × Int)(h:H)(K:KVH)(hI:fI s true m h)(hK:∀h',Kp 6 h h'→fI s (fStep s m x).2 (fStep s m x).1 h'→Ho (K (.bool (fStep s m x).2) h')) :
  Ho (wFr (gt h 6) fun cd vs st=>ck (Nat.beq st 0) ((compR Tryz.prog (drawsC Tryz.prog) cd).r (sem Tryz.prog) 6 vs [eT x.1,.int .i64 x.2] h K)):=by
 obtain⟨⟨hm1,hm2,hm3⟩,hn,g0,g2,g3,g4,g6⟩:=hI
 have hm3:=hm3 rfl
 rw[g6,s_wFr,show Nat.beq (bif true then 0 else 2) 0=true from rfl,s_ck]
 show Ho ((compR Tryz.prog (drawsC Tryz.prog) (rdOf Tryz.prog 184 0 [38,13,12,8,7,6,5,4,2] 39)).r (sem Tryz.prog) 6 [.any,.any,.any,.any,.any,.ref 4 0,.ref 3 0,.ref 2 0,.ref 0 0] [eT x.1,.int .i64 x.2] h K)
 rw[r_184_0]
 have G:=And.intro g0 <| And.intro g2 <| And.intro g3 <| And.intro g4 <| And.intro g6 <| And.intro @cT_spl <| And.intro @cS_spl sP
 have fin:∀b,fStep s m x=(m+1,b)→∀h',Kp 6 h h'→gt h' 0=.cells 2 (cS s)→gt h' 2=.cells 1 [.bool false]→gt h' 3=.cells 16 tbl→gt h' 4=.cells 1 [.int .i64 (m+1)]→gt h' 6=.frm (rdOf Tryz.prog 184 0 [38,13,12,8,7,6,5,4,2] 39) [.any,.any,.any,.any,.any,.ref 4 0,.ref 3 0,.ref 2 0,.ref 0 0] (bif b then 0 else 2)→Ho (K (.bool b) h'):=fun b e h' h1 h2 h3 h4 h5 h6=>by
  have:=hK h' h1
  rw[e] at this
  refine this ⟨⟨by show 0≤m+1;omega,by show m+1≤41;omega,fun hb=>?_⟩,Nat.lt_of_lt_of_le hn h1.n,h2,h3,h4,h5,h6⟩
  have hb:b=true:=hb
  subst hb
  have:m+1≤40∧_:=of_decide_eq_true (congrArg Prod.snd e)
  exact this.1
 refine onc G (ho_br (fun c=>?_) (fun c=>?_))
 ·refine onc (And.intro c G) ?_
  refine fin false (Prod.ext rfl (decide_eq_false fun e=>by omega)) _ ⟨Nat.le_succ _,fun q h1 h2=>?_⟩ ?_ ?_ ?_ ?_ ?_
  all_goals simp(disch:=omega) only [sG,g0,g2,g3,g4,s_spl0]
 refine onc (And.intro c G) (ho_br (fun c1=>?_) (fun c1=>?_))
 ·refine onc (And.intro c1 <| And.intro c G) ?_
  refine fin false (Prod.ext rfl (decide_eq_false fun e=>by omega)) _ ⟨Nat.le_succ _,fun q h1 h2=>?_⟩ ?_ ?_ ?_ ?_ ?_
  all_goals simp(disch:=omega) only [sG,g0,g2,g3,g4,s_spl0]
 refine onc (And.intro c1 <| And.intro c G) ?_
 refine(c_within _ _ _).call ?_
 refine onc (And.intro c1 <| And.intro c G) (ho_br (fun c2=>?_) (fun c2=>?_))
 ·refine onc (And.intro c2 <| And.intro c1 <| And.intro c G) ?_
  refine fin false (Prod.ext rfl (decide_eq_false fun e=>by rw[nodeB_no (by omega)] at e;exact absurd e.2.2 (by decide))) _ ⟨Nat.le_succ _,fun q h1 h2=>?_⟩ ?_ ?_ ?_ ?_ ?_
  all_goals simp(disch:=omega) only [sG,g0,g2,g3,g4,s_spl0]
 obtain⟨f,e1,hp⟩:=tbl_at s x.1 hs hf (by omega) (by omega)
 refine onc (And.intro c2 <| And.intro c1 <| And.intro c <| And.intro e1 <| And.intro @s_ixA <| And.intro @Nat.mul_one G) ?_
 refine hp.call ?_
 cases hB:nodeB s x.1 with
 |false=>
  refine onc (And.intro c2 <| And.intro c1 <| And.intro c G) ?_
  refine fin false (Prod.ext rfl (decide_eq_false fun e=>by rw[hB] at e;exact absurd e.2.2 (by decide))) _ ⟨Nat.le_succ _,fun q h1 h2=>?_⟩ ?_ ?_ ?_ ?_ ?_
  all_goals simp(disch:=omega) only [sG,g0,g2,g3,g4,s_spl0]
 |true=>
  refine onc (And.intro c2 <| And.intro c1 <| And.intro c G) ?_
  refine fin true (Prod.ext rfl (decide_eq_true ⟨by omega,by omega,hB⟩)) _ ⟨Nat.le_succ _,fun q h1 h2=>?_⟩ ?_ ?_ ?_ ?_ ?_
  all_goals simp(disch:=omega) only [sG,g0,g2,g3,g4,s_spl0]
def formB (s:Sg)(t:Tm):Bool:=(runL (fStep s) 0 (pre t 1)).2
theorem c_formed (s:Sg)(hs:s.cons.length≤1000)(hf:s.funs.length≤1000)(t:Tm)(hw:Few t):Pu Tryz.prog 184 [eS' s,eT t] (.bool (formB s t)):=by
 refine Pu.of prOk (by kernel_rfl) ⟨eS_below _,eT_below _,trivial⟩ ?_
 rw[t_184]
 refine onc sP ?_
 refine c_rules.call ?_
 have e1:tb 16 (nx tbl)=tbl:=rfl
 have e2:spl 0 tbl [.nilf,.nilf,.nilf,.nilf,.nilf,.nilf,.nilf,.nilf,.nilf,.nilf,.nilf,.nilf,.nilf,.nilf,.nilf,.nilf]=tbl:=rfl
 refine onc (And.intro e1 <| And.intro e2 sP) ?_
 refine c_tnodes t ?_
 refine on ?_
 refine rg_tnodes (I:=fI s) (step:=fStep s) (s0:=0) (fMo s) hw (by show 5<6;omega) ?_ ⟨⟨by omega,by omega,fun _=>by omega⟩,by show 6<7;omega,?_,?_,?_,?_,?_⟩ (fun m x h K hx hI hK=>f_round s hs hf m x h K hI hK) (fun h' hI=>?_)
 all_goals try (simp(disch:=omega) only [sG];done)
 show Ho (wFr (gt h' 6) fun _ _ s=>_)
 obtain⟨_,hn,g0,g2,g3,g4,g6⟩:=hI
 unfold formB
 cases hb:(runL (fStep s) 0 (pre t 1)).2 with
 |true=>
  rw[hb] at g6
  refine onc (And.intro @gt_kill_ne <| And.intro g2 g6) ?_
  exact fin_b rfl
 |false=>
  rw[hb] at g6
  refine onc (And.intro @gt_kill_ne <| And.intro g2 g6) ?_
  exact fin_b rfl
end
end Go.Proofs.YtgmjpmeddajmgaaGreat
namespace Go.Proofs.YtgmjpmeddajmgaaGreat
open Go Go.Avm Go.Bvm
set_option maxRecDepth 100000
set_option linter.unusedVariables false
set_option linter.unusedSimpArgs false
set_option linter.defProp false
noncomputable section
attribute [local irreducible] jn jv br lp ck iff wB wG wRef wSl wCl wAg wTu wStr wFn wIfc wInt wCe wRe wMp wFr ad sb ml lt le eqi nei eq1 isNil un cvt fa len lens ix ixA ixS ixV ld1 ldn sto al bx pt bs ms app cpy sli lkm mup men mst mrg srg snx mnx mtr tas lenm rgT rgE finR mfind mset mput wKey wMa sV sem fin Ho
theorem forall_app {α:Type}{a b:List α}{Q:α→Prop}:(∀x,x∈a++b→Q x)↔(∀x,x∈a→Q x)∧(∀x,x∈b→Q x):=by
 simp only[List.mem_append]
 exact⟨fun h=>⟨fun x hx=>h x (.inl hx),fun x hx=>h x (.inr hx)⟩,fun h x hx=>hx.elim (h.1 x) (h.2 x)⟩
theorem weighs_pre {l:List Tm}(h:∀t,t∈l→∀left d e:Int,-1≤left→weigh t left d=if ((pre t e).length:Int)≤left∧(∀x,x∈pre t e→x.2<e+d) then left-(pre t e).length else -1) :
  ∀left d e:Int,-1≤left→weighs l left d=if ((pres l e).length:Int)≤left∧(∀x,x∈pres l e→x.2<e+d) then left-(pres l e).length else -1:=by
 induction l with
 |nil=>
  intro left d e hl
  rw[weighs_nil,pres]
  split
  ·simp
  ·rename_i hc
   have:¬((([]:List (Tm × Int)).length:Int)≤left):=fun h=>hc ⟨h,fun x hx=>(by cases hx)⟩
   simp at this
   omega
 |cons t r ih=>
  intro left d e hl
  have h1:=h t List.mem_cons_self left d e hl
  rw[weighs_cons,pres]
  by_cases h0:0≤left
  ·rw[if_pos h0]
   by_cases c:((pre t e).length:Int)≤left∧(∀x,x∈pre t e→x.2<e+d)
   ·rw[if_pos c] at h1
    rw[h1,ih (fun s hs=>h s (List.mem_cons_of_mem _ hs)) _ d e (by omega)]
    have:(((pres r e).length:Int)≤left-(pre t e).length∧(∀x,x∈pres r e→x.2<e+d))↔(((pre t e++pres r e).length:Int)≤left∧(∀x,x∈pre t e++pres r e→x.2<e+d)):=by
     rw[forall_app,List.length_append]
     exact⟨fun h=>⟨by omega,c.2,h.2⟩,fun h=>⟨by omega,h.2.2⟩⟩
    by_cases c2:((pres r e).length:Int)≤left-(pre t e).length∧(∀x,x∈pres r e→x.2<e+d)
    ·rw[if_pos c2,if_pos (this.1 c2),List.length_append];omega
    ·rw[if_neg c2,if_neg (fun h=>c2 (this.2 h))]
   ·rw[if_neg c] at h1
    rw[h1,weighs_neg _ (by omega),if_neg]
    rw[forall_app,List.length_append]
    exact fun h=>c ⟨by omega,h.2.1⟩
  ·rw[if_neg h0,if_neg]
   ·omega
   ·rw[List.length_append]
    exact fun h=>by omega
theorem weigh_pre (t:Tm):∀left d e:Int,-1≤left→weigh t left d=if ((pre t e).length:Int)≤left∧(∀x,x∈pre t e→x.2<e+d) then left-(pre t e).length else -1:=by
 induction t using Tm.rec' with
 |h t ih=>
  intro left d e hl
  have hp:pre t e=(t,e)::pres t.kids (e+1):=by rw[pre_eq,pres_flat]
  rw[weigh_eq,hp]
  have hall:(∀x,x∈(t,e)::pres t.kids (e+1)→x.2<e+d)↔e<e+d∧∀x,x∈pres t.kids (e+1)→x.2<e+1+(d-1):=by
   simp only[List.mem_cons]
   exact⟨fun h=>⟨h (t,e) (.inl rfl),fun x hx=>by have:=h x (.inr hx);omega⟩,fun h x hx=>hx.elim (fun e'=>by rw[e'];exact h.1) (fun hx=>by have:=h.2 x hx;omega)⟩
  simp only[List.length_cons,hall]
  split
  ·rw[if_neg]
   rintro ⟨h1,h2,_⟩
   omega
  ·rename_i hc
   rw[weighs_pre ih (left-1) (d-1) (e+1) (by omega)]
   by_cases c:((pres t.kids (e+1)).length:Int)≤left-1∧(∀x,x∈pres t.kids (e+1)→x.2<e+1+(d-1))
   ·rw[if_pos c,if_pos ⟨by omega,by omega,c.2⟩];omega
   ·rw[if_neg c,if_neg]
    exact fun h=>c ⟨by omega,h.2.2⟩
theorem nodesB_pre (s:Sg)(t:Tm):∀e:Int,(nodesB s t=true↔∀x,x∈pre t e→nodeB s x.1=true):=by
 induction t using Tm.rec' with
 |h t ih=>
  intro e
  rw[nodesB_eq,nodesBs_all,pre_eq,Bool.and_eq_true,List.all_eq_true]
  simp only[List.mem_cons,List.mem_flatMap]
  exact⟨fun h x hx=>hx.elim (fun e=>by rw[e];exact h.1) (fun ⟨k,hk,hx⟩=>(ih k hk _).1 (h.2 k hk) x hx),fun h=>⟨h (t,e) (.inl rfl),fun k hk=>(ih k hk (e+1)).2 fun x hx=>h x (.inr ⟨k,hk,hx⟩)⟩⟩
theorem runF (s:Sg):∀(L:List (Tm × Int)) (m:Int),m≤40→((runL (fStep s) m L).2=true↔m+L.length≤40∧∀x,x∈L→x.2≤12∧nodeB s x.1=true)
 |[],m,hm=>⟨fun _=>⟨by simp;exact hm,fun x hx=>(by cases hx)⟩,fun _=>rfl⟩
 |a::r,m,hm=>by
  rw[runL]
  by_cases c:m+1≤40∧a.2≤12∧nodeB s a.1=true
  ·rw[if_pos (show(fStep s m a).2=true from decide_eq_true c)]
   show((runL (fStep s) (m+1) r).2=true↔_)
   rw[runF s r (m+1) c.1,List.length_cons]
   simp only[List.mem_cons]
   exact⟨fun h=>⟨by omega,fun x hx=>hx.elim (fun e=>by rw[e];exact c.2) (h.2 x)⟩,fun h=>⟨by omega,fun x hx=>h.2 x (.inr hx)⟩⟩
  ·have:(fStep s m a).2=false:=decide_eq_false c
   rw[this,if_neg (by decide)]
   refine⟨fun h=>(by cases h),fun h=>absurd ⟨?_,h.2 a List.mem_cons_self⟩ c⟩
   have:=h.1
   rw[List.length_cons] at this
   omega
theorem formB_eq (s:Sg)(t:Tm):formB s t=decide (termOk s t):=by
 have h1:=runF s (pre t 1) 0 (by omega)
 have h2:=weigh_pre t 40 12 1 (by omega)
 have h3:=nodesB_pre s t 1
 cases hb:formB s t with
 |true=>
  unfold formB at hb
  obtain⟨h4,h5⟩:=h1.1 hb
  rw[if_pos ⟨by omega,fun x hx=>by have:=(h5 x hx).1;omega⟩] at h2
  exact(decide_eq_true ⟨by omega,h3.2 fun x hx=>(h5 x hx).2⟩).symm
 |false=>
  unfold formB at hb
  refine(decide_eq_false fun h=>?_).symm
  have f1:=h.f1
  rw[h2] at f1
  split at f1
  ·rename_i c
   rw[h1.2 ⟨by omega,fun x hx=>⟨by have:=c.2 x hx;omega,h3.1 h.f2 x hx⟩⟩] at hb
   cases hb
  ·omega
theorem runL_all {α:Type}{p:α→Bool}:∀(l:List α),(runL (fun (_:Unit) a=>((),p a)) () l)=((),l.all p)
 |[]=>rfl
 |a::r=>by
  rw[runL,runL_all r,List.all_cons]
  cases p a <;> rfl
theorem _root_.Go.Bvm.Pu.arg {P:Program}{f:Nat}{l l':LA}{y:AV}(p:Pu P f l y)(hl:LeL l l'):Pu P f l' y:=
 ⟨p.pl,fun R hp g=>⟨fun FM ρ w vs ok hvs=>(p.do_ R hp g).h FM ρ w vs ok ⟨hvs.1.trans hl.1.symm,fun i hi=>hl.2 i hi _ _ _ (hvs.2 i (by rw[←hl.1];exact hi))⟩⟩⟩
def FrL (h:H)(l r:LA):Prop:=r.length=l.length∧∀j,j<l.length→frz h 40 (nx l j)=some (nx r j)
theorem FrL.nil {h:H}:FrL h [] []:=⟨rfl,fun j hj=>absurd hj (by simp)⟩
theorem FrL.cons {h:H}{a b:AV}{l r:LA}(h1:frz h 40 a=some b)(h2:FrL h l r):FrL h (a::l) (b::r):=⟨by simp[h2.1],fun j hj=>match j,hj with
 |0,_=>h1
 |j+1,hj=>h2.2 j (by simpa using hj)⟩
theorem frzL_self {f:AV→Ans}:∀{l:LA} {K:LA→Ans},(∀a,a∈l→f a=some a)→frz.frzL f l K=K l
 |[],K,_=>rfl
 |a::l,K,h=>by
  show subC (f a) (fun b=>frz.frzL f l fun r=>K (b::r))=_
  rw[h a List.mem_cons_self]
  show frz.frzL f l (fun r=>K (a::r))=_
  rw[frzL_self fun b hb=>h b (List.mem_cons_of_mem _ hb)]
theorem frz_S {h:H}(s:Sg):frz h 40 (eS' s)=some (eS' s):=rfl
theorem cT_self {h:H}{n:Nat}(t:Tm):∀a,a∈cT t→frz h (n+1) a=some a:=by
 rw[cT_eq]
 intro a ha
 simp only[List.mem_cons,List.not_mem_nil,or_false] at ha
 rcases ha with rfl|rfl|rfl <;> rfl
theorem frz_sl {h:H}{o off len cap es N:Nat}{ex:Bool}{l:LA}(hes:0<es)(hg:gt h o=.cells N l)(hN:off+len*es≤N)(hc:len≤cap)(hl:l.length=N)(hs:∀a,a∈l→frz h 39 a=some a):frz h 40 (.sl o off len cap ex es)=some (.fz .opn es len fun i j=>nx l (off+(i*es+j))):=by
 show ck (Nat.blt 0 es) (wRe (gt h o) fun N l=>ck (Nat.ble (off+len*es) N) (ck (Nat.ble len cap) (frz.frzL (frz h 39) (tk N l) fun c=>some (.fz .opn es len fun i j=>nx c (off+(i*es+j))))))=_
 rw[show Nat.blt 0 es=true from ble_t hes,s_ck,hg,s_wRe,ble_t hN,s_ck,ble_t hc,s_ck,tk_self l N hl,frzL_self hs]
theorem frz_T1 {h:H}{o:Nat}{t:Tm}(hg:gt h o=.cells 3 (cT t)):frz h 40 (.sl o 0 1 1 true 3)=some (.fz .opn 3 1 fun i j=>nx (cT t) (0+(i*3+j))):=frz_sl (by omega) hg (by omega) (by omega) (cT_len t) (cT_self t)
theorem le_T1 {t:Tm}:Le (.fz .opn 3 1 fun i j=>nx (cT t) (0+(i*3+j))) (eTs .opn [t]):=Le.fz rfl fun i j hi hj=>by
 have:i=0:=by omega
 subst this
 show nx (cT t) (0+(0*3+j))=nx (cT t) j
 rw[Nat.zero_mul,Nat.zero_add,Nat.zero_add]
theorem _root_.Go.Bvm.Pu.callG {P:Program}{f:Nat}{l l' r:LA}{y:AV}(p:Pu P f l y){h:H}{K Pn:KVH}(hr:FrL h l' r)(hl:LeL l r)(hk:Ho (K y (frzH (objL (objF h 40) l') h))):Ho (((sem P).C f).r l' h K Pn):=(p.arg hl).callF hr hk
theorem c_right (s:Sg)(k:Fz)(l:List Tm)(hs:smallSg s)(hl:l.length≤1000)(hf:∀t,t∈l→Few t):Pu Tryz.prog 139 [eS' s,eTs k l] (.bool (decide (sigOk s∧∀t,t∈l→termOk s t))):=by
 refine Pu.of prOk (by kernel_rfl) ⟨eS_below _,trivial,trivial⟩ ?_
 rw[t_139]
 have h1:=hs.f1
 have h2:=hs.f2
 generalize he:decide (sigOk s∧∀t,t∈l→termOk s t)=b
 refine onc sP ?_
 refine(c_CheckSig s hs).call ?_
 unfold okI
 by_cases c:sigOk s
 ·rw[if_pos c]
  refine onc sP ?_
  refine c_everyT (o:=0) (I:=fun _ (_:Unit) h=>0<h.n∧gt h 0=.cells 2 (cS s)) (step:=fun _ t=>((),formB s t)) (D:=Few) ?_ ?_ k l (by omega) hf () _ ⟨by show 0<0+1;omega,gt_nw h0 _⟩ (fun h' _ _=>?_)
  ·intro _ t h K hf ⟨hn,hg⟩ hK
   refine ho_cl ?_
   show Ho (((sem Tryz.prog).C 183).r [eT t,.ref 0 0] h K noP)
   refine sem_fn prOk (by kernel_rfl) ?_
   rw[t_183]
   refine onc (And.intro hg sP) ?_
   refine(c_formed s (by omega) (by omega) t hf).call ?_
   refine on ?_
   exact hK _ (Ex.refl h).nw.kp ⟨Nat.lt_succ_of_lt hn,by rw[gt_nw_ne h _ (by omega)];exact hg⟩
  ·rintro _ _ h h' e ⟨h3,h4⟩
   exact⟨Nat.lt_of_lt_of_le h3 e.n,by rw[e.k _ h3,h4]⟩
  ·rw[runL_all]
   refine on ?_
   refine fin_b (Eq.trans ?_ he)
   rw[←dB (l.all _)]
   refine decide_eq_decide.2 ?_
   rw[List.all_eq_true]
   exact⟨fun h=>⟨c,fun t ht=>by have:=h t ht;rw[formB_eq] at this;exact of_decide_eq_true this⟩,fun h t ht=>by rw[formB_eq];exact decide_eq_true (h.2 t ht)⟩
 ·rw[if_neg c]
  refine onc sP ?_
  exact fin_b (Eq.trans (decide_eq_false fun e=>c e.1).symm he)
theorem c_right1 (s:Sg)(t:Tm)(hs:smallSg s)(hf:Few t):Pu Tryz.prog 139 [eS' s,eTs .opn [t]] (.bool (decide (sigOk s∧termOk s t))):=by
 have:=c_right s .opn [t] hs (by simp) (fun x hx=>by rw[List.mem_singleton.1 hx];exact hf)
 rwa [show decide (sigOk s∧∀x,x∈[t]→termOk s x)=decide (sigOk s∧termOk s t) from decide_eq_decide.2 (by simp)] at this
theorem c_Check (s:Sg)(t:Tm)(hs:smallSg s)(hf:Few t):Pu Tryz.prog 86 [eS' s,eT t] (.int .i64 (okI (sigOk s∧termOk s t))):=by
 refine Pu.of prOk (by kernel_rfl) ⟨eS_below _,eT_below _,trivial⟩ ?_
 rw[t_86]
 refine onc (And.intro @cT_spl sP) ?_
 refine(c_right1 s t hs hf).callG (.cons (frz_S s) (.cons (frz_T1 (gt_nw _ _)) .nil)) (LeL.same (LeL.cons le_T1 LeL.nil)) ?_
 unfold okI
 by_cases c:sigOk s∧termOk s t
 ·rw[if_pos c,decide_eq_true c]
  refine on ?_
  exact fin_i rfl
 ·rw[if_neg c,decide_eq_false c]
  refine on ?_
  exact fin_i rfl
end
end Go.Proofs.YtgmjpmeddajmgaaGreat
namespace Go.Proofs.YtgmjpmeddajmgaaGreat
open Go Go.Avm Go.Bvm
set_option maxRecDepth 100000
set_option linter.unusedVariables false
set_option linter.unusedSimpArgs false
set_option linter.defProp false
noncomputable section
attribute [local irreducible] jn jv br lp ck iff wB wG wRef wSl wCl wAg wTu wStr wFn wIfc wInt wCe wRe wMp wFr ad sb ml lt le eqi nei eq1 isNil un cvt fa len lens ix ixA ixS ixV ld1 ldn sto al bx pt bs ms app cpy sli lkm mup men mst mrg srg snx mnx mtr tas lenm rgT rgE finR mfind mset mput wKey wMa sV sem fin Ho
theorem t_174 (t:Tb)(h:H)(K Pn:KVH)(x0 x1:AV):(compF Tryz.prog (drawsC Tryz.prog) 174).r t [x0,x1] h K Pn=ck true (bx x0 h fun v h=>bx x1 h fun v_1 h=>al 1 [AV.bool false] h fun v_2 h=>al 1 [mkI 0] h fun v_3 h=>ldn 2 h v fun v=>ldn 3 h v_1 fun v_4=>pt 0 3 v_4 [mkI 0,mkI 0,AV.fz Fz.nil 0 0 fun _ _=>AV.any] fun cs=>bs 1 3 3 cs h fun v_5 h=>(t.C 139).r [v,v_5] h (fun v h=>un v fun v=>jn (fun l h=>e7 l fun x x_1 x_2 x_3 x_4 x_5 x_6=>al 1 [AV.nilm] (nw h (CO.map (keyTy Tryz.prog 224) [])) fun v h_1=>sto 1 h_1 v (AV.mp h.2) fun h=>ldn 3 h x_6 fun v_6=>(t.C 165).r [v_6] h (fun v_7 h=>jn (fun l h=>e2 l fun x x_7=>sto 1 h x_7 (AV.bool true) fun h=>sto 1 h x (mkI 0) fun h=>wRef x_7 (fun x_8 x_9=>ld1 h x_7 fun v=>wRef x (fun x_10 x_11=>ld1 h x fun v_8=>K (AV.tup 2 (nx [v,v_8])) h) fun x x_10=>none) fun x x_8=>none) fun k=>rgT t v_7 (rdOf Tryz.prog 174 0 [39,36,16,7,6,5,4] 43) [x,x_1,x_2,x_3,v,x_4,x_5] h fun n h=>rgE n (k [x_4,x_5] h) (wRef x_5 (fun x x_7=>ld1 h x_5 fun v=>wRef x_4 (fun x x_8=>ld1 h x_4 fun v_8=>K (AV.tup 2 (nx [v,v_8])) h) fun x x_8=>none) fun x x_7=>none) fun n=>iff (n.beq 0) (k [x_4,x_5] h) none) Pn) fun k=>wB v (sto 1 h v_2 (AV.bool false) fun h=>sto 1 h v_3 (mkI 2) fun h=>wRef v_2 (fun x x_1=>ld1 h v_2 fun v=>wRef v_3 (fun x x_2=>ld1 h v_3 fun v_6=>K (AV.tup 2 (nx [v,v_6])) h) fun x x_2=>none) fun x x_1=>none) (k [AV.any,AV.any,AV.any,AV.any,v_3,v_2,v_1] h)) Pn):=by kernel_rfl
theorem t_173 (t:Tb)(h:H)(K Pn:KVH)(x0 x1:AV):(compF Tryz.prog (drawsC Tryz.prog) 173).r t [x0,x1] h K Pn=ck true (bx x0 h fun v h=>ldn 2 h x1 fun v_1=>ldn 3 h v fun v=>(t.C 174).r [v_1,v] h (fun v h=>wTu v fun n g=>ck (Nat.ble 1 n) (wTu v fun n g_1=>ck (Nat.ble 2 n) (jv (fun v h=>jv (fun v h=>jv K fun k=>wB (g 0) (k v h) (k (AV.bool false) h)) fun k=>wG true (g 0) (eqi v (mkI 0) fun v=>k v h) (k skipV h)) fun k=>wG true (g 0) (k (g_1 1) h) (k skipV h)))) Pn):=by kernel_rfl
theorem r_174_0 (t:Tb)(o:Nat)(h:H)(K:KVH)(y0 y1 y2 y3 y4 y5 y6 x0 x1:AV):(compR Tryz.prog (drawsC Tryz.prog) (rdOf Tryz.prog 174 0 [39,36,16,7,6,5,4] 43)).r t o [y0,y1,y2,y3,y4,y5,y6] [x0,x1] h K=ck true (al 3 [mkI 0,mkI 0,AV.fz Fz.nil 0 0 fun _ _=>AV.any] h fun v h=>sto 3 h v x0 fun h=>wFr (gt h o) fun cd1 vs1 s1=>ck (s1.beq 0) (jn (fun l h=>finR o K 0 (AV.bool true) h) fun k=>fa 0 v fun v_1=>ld1 (st h o (CO.frm cd1 vs1 1)) v_1 fun v_2=>nei v_2 (mkI 1) fun v_3=>jv (fun v_4 h=>jv (fun v_5 h=>jv (fun v_6 h=>jv (fun v_7 h=>jv (fun v_8 h=>jv (fun v_9 h=>jv (fun v_10 h=>jv (fun v_11 h=>jv (fun v_12 h=>jv (fun v_13 h=>jv (fun v_14 h=>jv (fun v_15 h=>jv (fun v_16 h=>jv (fun v_17 h=>jn (fun l h=>e2 l fun x x_1=>fa 0 x fun v=>ld1 h v fun v=>eqi v (mkI 1) fun v=>jn k fun k=>wB v (ld1 h x_1 fun v=>fa 1 x fun v_18=>ld1 h v_18 fun v_19=>mup 3 (keyC Tryz.prog 3) v v_19 (AV.bool true) h fun h=>k [] h) (k [] h)) fun k=>wB v_17 (sto 1 h y6 (AV.bool false) fun h=>sto 1 h y5 (mkI 0) fun h=>finR o K 2 (AV.bool false) h) (k [v,y4] h)) fun k=>wB v_7 (k (AV.bool true) h) (k v_16 h)) fun k=>wG false v_7 (jv k fun k=>wB v_11 (k v_15 h) (k (AV.bool false) h)) (k skipV h)) fun k=>wG true v_11 (lkm 3 (keyC Tryz.prog 3) (AV.bool false) false v_12 v_14 h fun v=>k v h) (k skipV h)) fun k=>wG true v_11 (ld1 h v_13 fun v=>k v h) (k skipV h)) fun k=>wG true v_11 (fa 1 v fun v=>k v h) (k skipV h)) fun k=>wG true v_11 (ld1 h y4 fun v=>k v h) (k skipV h)) fun k=>wG false v_7 (k v_10 h) (k skipV h)) fun k=>wG false v_7 (eqi v_9 (mkI 1) fun v=>k v h) (k skipV h)) fun k=>wG false v_7 (ld1 h v_8 fun v=>k v h) (k skipV h)) fun k=>wG false v_7 (fa 0 v fun v=>k v h) (k skipV h)) fun k=>wB v_3 (k v_6 h) (k (AV.bool false) h)) fun k=>wG true v_3 (nei v_5 (mkI 3) fun v=>k v h) (k skipV h)) fun k=>wG true v_3 (ld1 h v_4 fun v=>k v h) (k skipV h)) fun k=>wG true v_3 (fa 0 v fun v=>k v (st h o (CO.frm cd1 vs1 1))) (k skipV (st h o (CO.frm cd1 vs1 1))))):=by kernel_rfl
theorem keyInt:keyC Tryz.prog 3=⟨fun v=>wVI v fun j n=>Bool.rec (motive:=fun _=>Bool) false (inR .i64 n) (kq .i64 j)⟩:=by kernel_rfl
theorem keyI_ok {n:Int}(h1 : -1000000≤n)(h2:n≤1000000):(keyC Tryz.prog 3).r (.int .i64 n)=true:=by
 rw[keyInt]
 show(Bool.rec (motive:=fun _=>Bool) false (inR .i64 n) (kq .i64 .i64):Bool)=true
 rw[kq_rfl]
 exact inR64 (by omega) (by omega)
def pStep (ms:List Int)(x:Tm × Int):List Int × Bool:=
 if x.1.op=1 then(if x.1.n∈ms then(ms,false) else(ms++[x.1.n],true)) else if x.1.op=3 then(ms,true) else(ms,false)
def pVs:LA:=[.any,.any,.any,.any,.ref 6 0,.ref 3 0,.ref 2 0]
def pI (b:Bool)(ms:List Int)(h:H):Prop:=
 ms.Nodup∧8<h.n∧gt h 2=.cells 1 [.bool false]∧gt h 3=.cells 1 [.int .i64 0]∧gt h 5=.map 3 (ent kI (fun _=>.bool true) ms)∧gt h 6=.cells 1 [.mp 5] ∧
 gt h 8=.frm (rdOf Tryz.prog 174 0 [39,36,16,7,6,5,4] 43) pVs (bif b then 0 else 2)
theorem pMo:Mo pI:=by
 rintro b m h h' e ⟨h0,h1,h2,h3,h4,h5,h6⟩
 have:=e.n
 exact⟨h0,by omega,by rw[e.k _ (by omega),h2],by rw[e.k _ (by omega),h3],by rw[e.k _ (by omega),h4],by rw[e.k _ (by omega),h5],by rw[e.k _ h1,h6]⟩
theorem p_round (ms:List Int)(x:Tm × Int)(h:H)(K:KVH)(hD:x.1.op=1→0≤x.1.n∧x.1.n≤19)(hI:pI true ms h)(hK:∀h',Kp 8 h h'→pI (pStep ms x).2 (pStep ms x).1 h'→Ho (K (.bool (pStep ms x).2) h')) :
  Ho (wFr (gt h 8) fun cd vs st=>ck (Nat.beq st 0) ((compR Tryz.prog (drawsC Tryz.prog) cd).r (sem Tryz.prog) 8 vs [eT x.1,.int .i64 x.2] h K)):=by
 obtain⟨hm,hn,g2,g3,g5,g6,g8⟩:=hI
 rw[g8,s_wFr,show Nat.beq (bif true then 0 else 2) 0=true from rfl,s_ck]
 show Ho ((compR Tryz.prog (drawsC Tryz.prog) (rdOf Tryz.prog 174 0 [39,36,16,7,6,5,4] 43)).r (sem Tryz.prog) 8 [.any,.any,.any,.any,.ref 6 0,.ref 3 0,.ref 2 0] [eT x.1,.int .i64 x.2] h K)
 rw[r_174_0]
 have G:=And.intro g2 <| And.intro g3 <| And.intro g5 <| And.intro g6 <| And.intro g8 <| And.intro @cT_spl sP
 have fin:∀b ms',pStep ms x=(ms',b)→ms'.Nodup→∀h',Kp 8 h h'→gt h' 2=.cells 1 [.bool false]→gt h' 3=.cells 1 [.int .i64 0]→gt h' 5=.map 3 (ent kI (fun _=>.bool true) ms')→gt h' 6=.cells 1 [.mp 5]→gt h' 8=.frm (rdOf Tryz.prog 174 0 [39,36,16,7,6,5,4] 43) pVs (bif b then 0 else 2)→Ho (K (.bool b) h'):=fun b ms' e hm' h' h1 h2 h3 h4 h5 h6=>by
  have:=hK h' h1
  rw[e] at this
  exact this ⟨hm',Nat.lt_of_lt_of_le hn h1.n,h2,h3,h4,h5,h6⟩
 unfold pStep at fin
 by_cases c1:x.1.op=1
 ·obtain⟨hn1,hn2⟩:=hD c1
  have hk:=keyI_ok (n:=x.1.n) (by omega) (by omega)
  refine onc (And.intro c1 <| And.intro hk <| And.intro @s_wMa <| And.intro @s_wKI <| And.intro @s_lkm1 <| And.intro @s_mfI G) (ho_br (fun c2=>?_) (fun c2=>?_))
  ·refine onc (And.intro c1 <| And.intro c2 G) ?_
   refine fin false ms (by rw[if_pos c1,if_pos c2]) hm _ ⟨Nat.le_succ _,fun q h1 h2=>?_⟩ ?_ ?_ ?_ ?_ ?_
   all_goals simp(disch:=omega) only [sG,g2,g3,g5,g6,s_spl0,pVs]
  ·have he:mput (.int .i64 x.1.n) (.bool true) (ent kI (fun _=>.bool true) ms)=ent kI (fun _=>.bool true) (ms++[x.1.n]):=by
    rw[show Value.int .i64 x.1.n=kI x.1.n from rfl,mput_ent c2,updC]
   have hms:(ms++[x.1.n]).Nodup:=by
    have:=ins_nodup (k:=x.1.n) hm
    unfold ins at this
    rwa [if_neg c2] at this
   refine onc (And.intro c1 <| And.intro c2 <| And.intro hk <| And.intro he <| And.intro sM G) ?_
   refine fin true _ (by rw[if_pos c1,if_neg c2]) hms _ ⟨Nat.le_succ _,fun q h1 h2=>?_⟩ ?_ ?_ ?_ ?_ ?_
   all_goals simp(disch:=omega) only [sG,g2,g3,g5,g6,s_spl0,pVs]
 ·by_cases c3:x.1.op=3
  ·refine onc (And.intro c1 <| And.intro c3 <| And.intro sM G) ?_
   refine fin true ms (by rw[if_neg c1,if_pos c3]) hm _ ⟨Nat.le_succ _,fun q h1 h2=>?_⟩ ?_ ?_ ?_ ?_ ?_
   all_goals simp(disch:=omega) only [sG,g2,g3,g5,g6,s_spl0,pVs]
  ·refine onc (And.intro c1 <| And.intro c3 <| And.intro sM G) ?_
   refine fin false ms (by rw[if_neg c1,if_neg c3]) hm _ ⟨Nat.le_succ _,fun q h1 h2=>?_⟩ ?_ ?_ ?_ ?_ ?_
   all_goals simp(disch:=omega) only [sG,g2,g3,g5,g6,s_spl0,pVs]
end
end Go.Proofs.YtgmjpmeddajmgaaGreat
namespace Go.Proofs.YtgmjpmeddajmgaaGreat
open Go Go.Avm Go.Bvm
set_option maxRecDepth 100000
set_option linter.unusedVariables false
set_option linter.unusedSimpArgs false
set_option linter.defProp false
noncomputable section
attribute [local irreducible] jn jv br lp ck iff wB wG wRef wSl wCl wAg wTu wStr wFn wIfc wInt wCe wRe wMp wFr ad sb ml lt le eqi nei eq1 isNil un cvt fa len lens ix ixA ixS ixV ld1 ldn sto al bx pt bs ms app cpy sli lkm mup men mst mrg srg snx mnx mtr tas lenm rgT rgE finR mfind mset mput wKey wMa sV sem fin Ho
theorem putL_mem:∀{l:List Int} {n x:Int},x∈putL l n↔x=n∨x∈l
 |[],n,x=>by simp[putL]
 |y::r,n,x=>by
  rw[putL]
  split
  ·rw[List.mem_cons,putL_mem,List.mem_cons]
   exact⟨fun h=>h.elim (fun e=>.inr (.inl e)) (fun h=>h.elim .inl fun h=>.inr (.inr h)),fun h=>h.elim (fun e=>.inr (.inl e)) (fun h=>h.elim .inl fun h=>.inr (.inr h))⟩
  ·split
   ·rename_i e
    subst e
    simp
   ·simp
theorem fz_T1 {h:H}{o:Nat}{s:Sg}{t:Tm}(hg:gt h o=.cells 3 (cT t)):frzH (objL (objF h 40) [eS' s,.sl o 0 1 1 true 3]) h=st h o (.fce 3 (cT t)):=by
 have h1:objF h 40 (.sl o 0 1 1 true 3)=[o]:=by
  show o::objL (objF h 39) (cellsOf (gt h o))=_
  rw[hg]
  show o::objL (objF h 39) (tk 3 (cT t))=_
  rw[tk_self _ _ (cT_len t),cT_eq];rfl
 have h2:objL (objF h 40) [eS' s,.sl o 0 1 1 true 3]=[o]:=by
  show objF h 40 (eS' s)++(objF h 40 (.sl o 0 1 1 true 3)++[])=_
  rw[h1];rfl
 rw[h2]
 show frz1 h o=_
 unfold frz1
 rw[hg]
theorem pre_shift (t:Tm):∀d e:Int,(pre t d).map Prod.fst=(pre t e).map Prod.fst:=by
 induction t using Tm.rec' with
 |h t ih=>
  intro d e
  rw[pre_eq,pre_eq,List.map_cons,List.map_cons,List.map_flatMap,List.map_flatMap]
  congr 1
  have key:∀(l:List Tm),(∀t,t∈l→∀d e:Int,(pre t d).map Prod.fst=(pre t e).map Prod.fst)→(l.flatMap fun a=>(pre a (d+1)).map Prod.fst)=l.flatMap fun a=>(pre a (e+1)).map Prod.fst:=by
   intro l
   induction l with
   |nil=>intro _;rfl
   |cons a r ihr=>intro h;rw[List.flatMap_cons,List.flatMap_cons,h a List.mem_cons_self (d+1) (e+1),ihr fun t ht=>h t (List.mem_cons_of_mem _ ht)]
  exact key _ ih
def allN' (Q:Tm→Prop)(t:Tm):Prop:=∀x,x∈(pre t 1).map Prod.fst→Q x
theorem allN'_pre {Q:Tm→Prop}{t:Tm}{d:Int}:allN' Q t↔∀x,x∈pre t d→Q x.1:=by
 unfold allN'
 rw[pre_shift t 1 d]
 exact⟨fun h x hx=>h _ (List.mem_map_of_mem hx),fun h x hx=>by
  obtain⟨y,hy,rfl⟩:=List.mem_map.1 hx
  exact h y hy⟩
theorem allN'_eq {Q:Tm→Prop}{t:Tm}:allN' Q t↔Q t∧∀k,k∈t.kids→allN' Q k:=by
 rw[allN'_pre (d:=1),pre_eq]
 simp only[List.mem_cons,List.mem_flatMap]
 exact⟨fun h=>⟨h (t,1) (.inl rfl),fun k hk=>allN'_pre.2 fun x hx=>h x (.inr ⟨k,hk,hx⟩)⟩,fun h x hx=>hx.elim (fun e=>by rw[e];exact h.1) fun ⟨k,hk,hx⟩=>allN'_pre.1 (h.2 k hk) x hx⟩
theorem shapeB_all {t:Tm}:shapeB t=true↔allN' (fun x=>x.op=1∨x.op=3) t:=by
 induction t using Tm.rec' with
 |h t ih=>
  rw[allN'_eq,shapeB_eq,shapesB_all,Bool.and_eq_true,List.all_eq_true,Bool.or_eq_true,decide_eq_true_eq,decide_eq_true_eq]
  exact⟨fun h=>⟨h.2,fun k hk=>(ih k hk).1 (h.1 k hk)⟩,fun h=>⟨fun k hk=>(ih k hk).2 (h.2 k hk),h.1⟩⟩
theorem pStep_shape:∀(L:List (Tm × Int)) (ms:List Int),(runL pStep ms L).2=true→∀x,x∈L→x.1.op=1∨x.1.op=3
 |[],_,_,x,hx=>by cases hx
 |a::r,ms,h,x,hx=>by
  rw[runL] at h
  by_cases c:(pStep ms a).2=true
  ·rw[if_pos c] at h
   rcases List.mem_cons.1 hx with e|e
   ·subst e
    unfold pStep at c
    by_cases c1:x.1.op=1
    ·exact .inl c1
    ·rw[if_neg c1] at c
     by_cases c2:x.1.op=3
     ·exact .inr c2
     ·rw[if_neg c2] at c;cases c
   ·exact pStep_shape r _ h x e
  ·rw[if_neg c] at h;cases h
def SamS (a b:List Int):Prop:=∀n,n∈a↔n∈b
theorem onceP {t:Tm}(hb:allN' (fun x=>x.op=1→x.kids=[]) t)(hs:allN' (fun x=>x.op=1∨x.op=3) t):∀(d:Int) (ms b:List Int),SamS ms b→(runL pStep ms (pre t d)).2=(onceT t b).2∧((onceT t b).2=true→SamS (runL pStep ms (pre t d)).1 (onceT t b).1):=by
 induction t using Tm.rec' with
 |h t ih=>
  intro d ms b hS
  obtain⟨hb1,hb2⟩:=allN'_eq.1 hb
  obtain⟨hs1,hs2⟩:=allN'_eq.1 hs
  rw[onceT_eq,pre_eq,runL]
  by_cases c:t.op=1
  ·rw[if_pos c,hb1 c]
   unfold pStep
   simp only[if_pos c,List.flatMap_nil,runL]
   by_cases c2:t.n∈ms
   ·have c3:=(hS _).1 c2
    simp[c2,c3]
   ·have c3:t.n∉b:=fun h=>c2 ((hS _).2 h)
    simp only[if_neg c2,decide_eq_false c3,if_true,Bool.not_false]
    refine⟨trivial,fun _ n=>?_⟩
    rw[putL_mem,List.mem_append,List.mem_singleton,hS n]
    exact⟨fun h=>h.elim .inr .inl,fun h=>h.elim .inr .inl⟩
  ·have c3:t.op=3:=hs1.resolve_left c
   rw[if_neg c]
   have hp:pStep ms (t,d)=(ms,true):=by unfold pStep;rw[if_neg c,if_pos c3]
   rw[hp]
   simp only[if_true]
   rw[runL_flat]
   have key:∀(l:List Tm),(∀k,k∈l→k∈t.kids)→∀(ms b:List Int),SamS ms b→(runL (fun s k=>runL pStep s (pre k (d+1))) ms l).2=(onceL l b).2∧((onceL l b).2=true→SamS (runL (fun s k=>runL pStep s (pre k (d+1))) ms l).1 (onceL l b).1):=by
    intro l
    induction l with
    |nil=>intro _ ms b hS;rw[onceL];exact⟨rfl,fun _=>hS⟩
    |cons k r ihr=>
     intro hl ms b hS
     have hk:=hl k List.mem_cons_self
     obtain⟨h1,h2⟩:=ih k hk (hb2 k hk) (hs2 k hk) (d+1) ms b hS
     rw[runL,onceL_cons]
     by_cases c4:(onceT k b).2=true
     ·rw[if_pos (by rw[h1];exact c4),if_pos c4]
      exact ihr (fun k hk=>hl k (List.mem_cons_of_mem _ hk)) _ _ (h2 c4)
     ·rw[if_neg (by rw[h1];exact c4),if_neg c4]
      exact⟨rfl,fun h=>by cases h⟩
   exact key t.kids (fun _ h=>h) ms b hS
theorem termOk.bare {s:Sg}{t:Tm}(h:termOk s t):allN' (fun x=>x.op=1→x.kids=[]) t:=by
 rw[allN'_pre (d:=1)]
 intro x hx hop
 have:=(nodesB_pre s t 1).1 h.f2 x hx
 unfold nodeB at this
 rw[if_pos hop] at this
 exact List.eq_nil_of_length_eq_zero (of_decide_eq_true this).1
theorem patP {s:Sg}{t:Tm}(h:termOk s t):(runL pStep [] (pre t 1)).2=decide (patOk t):=by
 by_cases c:shapeB t=true
 ·rw[(onceP h.bare (shapeB_all.1 c) 1 [] [] (fun _=>Iff.rfl)).1]
  cases ho:(onceT t []).2 with
  |true=>exact(decide_eq_true ⟨ho,c⟩).symm
  |false=>exact(decide_eq_false fun e=>by have:=e.f1;rw[ho] at this;cases this).symm
 ·cases hr:(runL pStep [] (pre t 1)).2 with
  |true=>exact absurd (shapeB_all.2 (allN'_pre.2 (pStep_shape _ _ hr))) c
  |false=>exact(decide_eq_false fun e=>c e.f2).symm
theorem termOk.var {s:Sg}{t:Tm}(h:termOk s t){x:Tm × Int}(hx:x∈pre t 1)(hop:x.1.op=1):0≤x.1.n∧x.1.n≤19:=by
 have:=(nodesB_pre s t 1).1 h.f2 x hx
 unfold nodeB at this
 rw[if_pos hop] at this
 exact(of_decide_eq_true this).2
theorem _root_.Go.Bvm.Pu.callZ {P:Program}{f:Nat}{l l' r:LA}{y:AV}(p:Pu P f l y){h h2:H}{K Pn:KVH}(hr:FrL h l' r)(hl:LeL l r)(hz:frzH (objL (objF h 40) l') h=h2)(hk:Ho (K y h2)):Ho (((sem P).C f).r l' h K Pn):=p.callG hr hl (hz▸hk)
theorem c_IsPattern (s:Sg)(t:Tm)(hs:smallSg s)(hf:Few t):Pu Tryz.prog 174 [eS' s,eT t] (.tup 2 (nx [.bool (decide (sigOk s∧termOk s t∧patOk t)),.int .i64 (okI (sigOk s∧termOk s t))])):=by
 refine Pu.of prOk (by kernel_rfl) ⟨eS_below _,eT_below _,trivial⟩ ?_
 rw[t_174]
 have hkt:keyTy Tryz.prog 224=3:=by kernel_rfl
 have fin:∀b c h,b=decide (sigOk s∧termOk s t∧patOk t)→c=okI (sigOk s∧termOk s t)→Ho (fin Tryz.prog (.tup 2 (nx [.bool (decide (sigOk s∧termOk s t∧patOk t)),.int .i64 (okI (sigOk s∧termOk s t))])) (.tup 2 (nx [.bool b,.int .i64 c])) h):=fun b c h h1 h2=>by
  subst h1 h2
  exact ho_fin (Fzs.of (allN_iff.2 fun j hj=>match j,hj with|0,_=>trivial|1,_=>trivial))
 refine onc (And.intro @cT_spl sP) ?_
 refine(c_right1 s t hs hf).callZ (.cons (frz_S s) (.cons (frz_T1 (gt_nw _ _)) .nil)) (LeL.same (LeL.cons le_T1 LeL.nil)) (fz_T1 (gt_nw _ _)) ?_
 by_cases c:sigOk s∧termOk s t
 ·rw[decide_eq_true c]
  refine onc (And.intro hkt sP) ?_
  refine c_tnodes t ?_
  refine on ?_
  refine rg_tnodes (I:=pI) (step:=pStep) (s0:=[]) pMo hf (by show 7<8;omega) ?_ ⟨List.nodup_nil,by show 8<9;omega,?_,?_,?_,?_,?_⟩ (fun m x h K hx hI hK=>p_round m x h K (fun hop=>c.2.var hx hop) hI hK) (fun h' hI=>?_)
  all_goals try (simp(disch:=omega) only [sG,pVs];done)
  ·simp(disch:=omega) only [sG];rfl
  show Ho (wFr (gt h' 8) fun _ _ s=>_)
  obtain⟨_,hn,g2,g3,g5,g6,g8⟩:=hI
  rw[patP c.2] at g8
  by_cases c2:patOk t
  ·rw[decide_eq_true c2] at g8
   refine onc (And.intro @gt_kill_ne <| And.intro g2 <| And.intro g3 g8) ?_
   exact fin _ _ _ (decide_eq_true ⟨c.1,c.2,c2⟩).symm (by unfold okI;rw[if_pos c])
  ·rw[decide_eq_false c2] at g8
   refine onc (And.intro @gt_kill_ne <| And.intro g2 <| And.intro g3 g8) ?_
   exact fin _ _ _ (decide_eq_false fun e=>c2 e.2.2).symm (by unfold okI;rw[if_pos c])
 ·rw[decide_eq_false c]
  refine onc sP ?_
  exact fin _ _ _ (decide_eq_false fun e=>c ⟨e.1,e.2.1⟩).symm (by unfold okI;rw[if_neg c])
end
end Go.Proofs.YtgmjpmeddajmgaaGreat
namespace Go.Proofs.YtgmjpmeddajmgaaGreat
open Go Go.Avm Go.Bvm
set_option maxRecDepth 100000
set_option linter.unusedVariables false
set_option linter.unusedSimpArgs false
set_option linter.defProp false
noncomputable section
attribute [local irreducible] jn jv br lp ck iff wB wG wRef wSl wCl wAg wTu wStr wFn wIfc wInt wCe wRe wMp wFr ad sb ml lt le eqi nei eq1 isNil un cvt fa len lens ix ixA ixS ixV ld1 ldn sto al bx pt bs ms app cpy sli lkm mup men mst mrg srg snx mnx mtr tas lenm rgT rgE finR mfind mset mput wKey wMa sV sem fin Ho
theorem t_84 (t:Tb)(h:H)(K Pn:KVH)(x0 x1:AV):(compF Tryz.prog (drawsC Tryz.prog) 84).r t [x0,x1] h K Pn=ck true (bx x1 h fun v h=>(t.C 137).r [x0,AV.fn 138 0 (nx []) 1 (nx [v])] h (fun v h=>un v fun v=>K v h) Pn):=by kernel_rfl
theorem t_137 (t:Tb)(h:H)(K Pn:KVH)(x0 x1:AV):(compF Tryz.prog (drawsC Tryz.prog) 137).r t [x0,x1] h K Pn=ck true ((t.C 181).r [x0,x1] h (fun v h=>le (mkI 0) v fun v=>K v h) Pn):=by kernel_rfl
theorem t_181 (t:Tb)(h:H)(K Pn:KVH)(x0 x1:AV):(compF Tryz.prog (drawsC Tryz.prog) 181).r t [x0,x1] h K Pn=ck true (len x0 fun v=>jn (fun l h=>K (AV.int IntKind.i64 (Int.negSucc 0)) h) fun k=>lp (fun L l h=>e8 l fun x x_1 x_2 x_3 x_4 x_5 x_6 x_7=>lt x_2 x_3 fun v=>jn (fun l h=>e6 l fun x x_8 x_9 x_10 x_11 x_12=>jn (fun l h=>e8 l fun x x_13 x_14 x_15 x_16 x_17 x_18 x_19=>ad x_14 (mkI 1) fun v=>L [x,x_13,v,x_15,x_16,x_17,x_18,x_19] h) fun k=>ix 3 x_12 x_8 fun v=>ldn 3 h v fun v=>wFn x_11 (fun g na a nb b=>(t.C g).r (ap (tb na a) (v::tb nb b)) h (fun v h=>jn k fun k=>wB v (K x_8 h) (k [v,x,x_8,x_9,x_8,x_10,x_11,x_12] h)) Pn) fun o=>(t.R o).r [v] h (fun v h=>jn k fun k=>wB v (K x_8 h) (k [v,x,x_8,x_9,x_8,x_10,x_11,x_12] h)) Pn) fun k_1=>wB v (k_1 [v,x_2,x_3,x_5,x_6,x_7] h) (k [] h)) [AV.any,AV.any,mkI 0,v,AV.any,mkI 0,x1,x0] h):=by kernel_rfl
theorem t_138 (t:Tb)(h:H)(K Pn:KVH)(x0 x1:AV):(compF Tryz.prog (drawsC Tryz.prog) 138).r t [x0,x1] h K Pn=ck true (bx x0 h fun v h=>ld1 h x1 fun v_1=>ldn 3 h v fun v=>wFn v_1 (fun g na a nb b=>(t.C g).r (ap (tb na a) (v::tb nb b)) h (fun v h=>un v fun v=>K v h) Pn) fun o=>(t.R o).r [v] h (fun v h=>un v fun v=>K v h) Pn):=by kernel_rfl
theorem t_150 (t:Tb)(h:H)(K Pn:KVH)(x0:AV):(compF Tryz.prog (drawsC Tryz.prog) 150).r t [x0] h K Pn=ck true (bx x0 h fun v h=>K (AV.fn 189 0 (nx []) 1 (nx [v])) h):=by kernel_rfl
theorem t_189 (t:Tb)(h:H)(K Pn:KVH)(x0 x1:AV):(compF Tryz.prog (drawsC Tryz.prog) 189).r t [x0,x1] h K Pn=ck true (bx x0 h fun v h=>al 1 [AV.nilf] h fun v_1 h=>sto 1 h v_1 (AV.fn 190 0 (nx []) 2 (nx [v,v_1])) fun h=>ld1 h v_1 fun v=>ldn 3 h x1 fun v_2=>wFn v (fun g na a nb b=>(t.C g).r (ap (tb na a) (v_2::tb nb b)) h (fun v h=>K (AV.tup 0 (nx [])) h) Pn) fun o=>(t.R o).r [v_2] h (fun v h=>K (AV.tup 0 (nx [])) h) Pn):=by kernel_rfl
theorem t_190 (t:Tb)(h:H)(K Pn:KVH)(x0 x1 x2:AV):(compF Tryz.prog (drawsC Tryz.prog) 190).r t [x0,x1,x2] h K Pn=ck true (bx x0 h fun v h=>ld1 h x1 fun v_1=>ldn 3 h v fun v_2=>wFn v_1 (fun g na a nb b=>(t.C g).r (ap (tb na a) (v_2::tb nb b)) h (fun v_3 h=>jv (fun v h=>jv (fun v h=>jv (fun v_4 h=>jv (fun v h=>jv K fun k=>wB v_3 (k v h) (k (AV.bool false) h)) fun k=>wG true v_3 ((t.C 84).r [v,v_4] h k Pn) (k skipV h)) fun k=>wG true v_3 (ld1 h x2 fun v=>k v h) (k skipV h)) fun k=>wG true v_3 (ld1 h v fun v=>k v h) (k skipV h)) fun k=>wG true v_3 (fa 2 v fun v=>k v h) (k skipV h)) Pn) fun o=>(t.R o).r [v_2] h (fun v_3 h=>jv (fun v h=>jv (fun v h=>jv (fun v_4 h=>jv (fun v h=>jv K fun k=>wB v_3 (k v h) (k (AV.bool false) h)) fun k=>wG true v_3 ((t.C 84).r [v,v_4] h k Pn) (k skipV h)) fun k=>wG true v_3 (ld1 h x2 fun v=>k v h) (k skipV h)) fun k=>wG true v_3 (ld1 h v fun v=>k v h) (k skipV h)) fun k=>wG true v_3 (fa 2 v fun v=>k v h) (k skipV h)) Pn):=by kernel_rfl
theorem c_allT {x:AV}{o:Nat}{σ:Type}{I:Bool→σ→H→Prop}{step:σ→Tm→σ × Bool}{D:Tm→Prop}(hx:FnOk x o (fun t=>[eT t]) I step D)(hm:Mo I)(hw:∀F,wCl x F=F 1 [x])(k:Fz)(l:List Tm)(hl:l.length≤2000)(hD:∀t,t∈l→D t)(s0:σ)(hs:H)(ho:o<hs.n)(hI:I true s0 hs){K:KVH}
  (hK:∀h',Kp o hs h'→I (runL step s0 l).2 (runL step s0 l).1 h'→Ho (K (.bool (runL step s0 l).2) h')):Ho (((sem Tryz.prog).C 84).r [eTs k l,x] hs K noP):=by
 refine sem_fn prOk (by kernel_rfl) ?_
 rw[t_84]
 refine onc hw ?_
 refine sem_fn prOk (by kernel_rfl) ?_
 rw[t_137]
 refine on ?_
 refine sem_fn prOk (by kernel_rfl) ?_
 rw[t_181]
 refine on ?_
 have e0:Ex hs (nw hs (.cells 1 [x])):=(Ex.refl hs).nw
 refine ho_lp (fun (y:Nat × σ) v h=>(∃a b c d,v=[a,b,.int .i64 y.1,.int .i64 l.length,c,d,.fn 138 0 (nx []) 1 (nx [.ref hs.n 0]),eTs k l])∧y.1≤l.length∧Kp o hs h∧hs.n<h.n∧gt h hs.n=.cells 1 [x]∧I true y.2 h∧runL step s0 l=runL step y.2 (l.drop y.1)) (fun y=>l.length-y.1) (0,s0) ⟨⟨_,_,_,_,rfl⟩,Nat.zero_le _,e0.kp,Nat.lt_succ_self _,gt_nw hs _,hm _ _ _ _ e0 hI,rfl⟩ (by show l.length-0<_;omega) ?_
 rintro ⟨i,s⟩ v h L ⟨⟨a,b,c,d,rfl⟩,hi,hk,hn,hg,hI',he⟩ ih
 simp only at hi hk hI' he
 refine on (ho_br (fun c1=>?_) (fun c1=>?_))
 ·rw[drop_cons (l:=l) (i:=i) (by omega),runL] at he
  refine onc sT ?_
  refine sem_fn prOk (by kernel_rfl) ?_
  show Ho ((compF Tryz.prog (drawsC Tryz.prog) 138).r (sem Tryz.prog) [eT (l.getD i default),.ref hs.n 0] h _ noP)
  rw[t_138]
  refine onc (And.intro hg sT) ?_
  have e1:Ex h (nw h (.cells 3 (cT (l.getD i default)))):=(Ex.refl h).nw
  refine hx s (l.getD i default) _ _ (hD _ (getD_mem (by omega))) (hm _ _ _ _ e1 hI') (fun h' hk' hI2=>?_)
  have hk2:=e1.kp.trans hk'
  have n':h.n+1≤h'.n:=hk'.n
  cases hb:(step s (l.getD i default)).2 with
  |true=>
   rw[if_pos hb] at he
   refine on ?_
   rw[hb] at hI2
   exact ih (i+1,_) _ _ ⟨⟨_,_,_,_,rfl⟩,by show i+1≤_;omega,hk.trans hk2,by omega,by rw[hk2.k _ ho hn];exact hg,hI2,he⟩ (by show l.length-(i+1)<l.length-i;omega)
  |false=>
   rw[hb,if_neg (by decide)] at he
   refine on ?_
   rw[hb] at hI2
   have:=hK h' (hk.trans hk2)
   rw[he] at this
   refine onc (show(0:Int)≤i by omega) ?_
   exact this hI2
 ·rw[List.drop_eq_nil_of_le (by omega),runL] at he
  refine on ?_
  have:=hK h hk
  rw[he] at this
  exact this hI'
def po (t:Tm):List Tm:=(pre t 1).map Prod.fst
theorem po_eq (t:Tm):po t=t::t.kids.flatMap po:=by
 unfold po
 rw[pre_eq,List.map_cons,List.map_flatMap]
 congr 1
 have key:∀(l:List Tm),(l.flatMap fun a=>(pre a (1+1)).map Prod.fst)=l.flatMap fun a=>(pre a 1).map Prod.fst:=by
  intro l
  induction l with
  |nil=>rfl
  |cons a r ih=>rw[List.flatMap_cons,List.flatMap_cons,pre_shift a (1+1) 1,ih]
 exact key _
theorem c_rvisit {o yb vb:Nat}{σ:Type}{I:Bool→σ→H→Prop}{step:σ→Tm→σ × Bool}{D:Tm→Prop}(rd:RdOk o (fun x=>[eT x]) I step D)(hm:Mo I)(hy:o<yb)(hv:o<vb)(t:Tm) :
  ∀(B:Int) (s:σ) (h:H) (K:KVH),FewB B t→B≤2000→(∀x,x∈po t→D x)→yb<h.n→vb<h.n→gt h yb=.cells 1 [.yl o]→gt h vb=.cells 1 [.fn 190 0 (nx []) 2 (nx [.ref yb 0,.ref vb 0])]→I true s h →
   (∀h',Kp o h h'→I (runL step s (po t)).2 (runL step s (po t)).1 h'→Ho (K (.bool (runL step s (po t)).2) h'))→Ho (((sem Tryz.prog).C 190).r [eT t,.ref yb 0,.ref vb 0] h K noP):=by
 induction t using Tm.rec' with
 |h t ih=>
 intro B s h K hw hB hD hyn hvn hgy hgv hI hK
 obtain⟨hB1,hkl,hk⟩:=hw.kids
 rw[po_eq] at hK hD
 rw[runL] at hK
 refine sem_fn prOk (by kernel_rfl) ?_
 rw[t_190]
 refine onc (And.intro hgy <| And.intro hgv sT) ?_
 have e1:Ex h (nw h (.cells 3 (cT t))):=(Ex.refl h).nw
 refine rd s t _ _ (hD _ List.mem_cons_self) (hm _ _ _ _ e1 hI) (fun h2 hk2 hI2=>?_)
 have g2:∀q,o<q→q<h.n+1→gt h2 q=gt (nw h (.cells 3 (cT t))) q:=fun q h1 h2=>hk2.k q h1 h2
 have hn2:h.n+1≤h2.n:=hk2.n
 have gt0:gt h2 h.n=.cells 3 (cT t):=by rw[g2 _ (by omega) (by omega)];exact gt_nw h _
 have gty:gt h2 yb=.cells 1 [.yl o]:=by rw[g2 _ hy (by omega),e1.k _ hyn,hgy]
 have gtv:gt h2 vb=.cells 1 [.fn 190 0 (nx []) 2 (nx [.ref yb 0,.ref vb 0])]:=by rw[g2 _ hv (by omega),e1.k _ hvn,hgv]
 cases hb:(step s t).2 with
 |false=>
  rw[hb,if_neg (by decide)] at hK
  refine on ?_
  rw[hb] at hI2
  exact hK h2 (e1.kp.trans hk2) hI2
 |true=>
  rw[if_pos hb,runL_flat] at hK
  rw[hb] at hI2
  refine onc (And.intro gt0 <| And.intro gtv sT) ?_
  refine c_allT (o:=o) (I:=fun b s h'=>I b s h'∧yb<h'.n∧vb<h'.n∧gt h' yb=.cells 1 [.yl o]∧gt h' vb=.cells 1 [.fn 190 0 (nx []) 2 (nx [.ref yb 0,.ref vb 0])]) (step:=fun s k=>runL step s (po k)) (D:=fun k=>k∈t.kids) ?_ ?_ (fun F=>s_clfn) t.k t.kids (by omega) (fun _ h=>h) _ h2 (by omega) ⟨hI2,by omega,by omega,gty,gtv⟩ (fun h3 hk3 hI3=>?_)
  ·intro s1 k h4 K4 hmem hI4 hK4
   obtain⟨hI4,h5,h6,h8,h9⟩:=hI4
   refine ho_cl ?_
   show Ho (((sem Tryz.prog).C 190).r [eT k,.ref yb 0,.ref vb 0] h4 K4 noP)
   refine ih k hmem (B-1) s1 _ _ (hk k hmem) (by omega) (fun x hx=>hD x (List.mem_cons_of_mem _ (List.mem_flatMap.2 ⟨k,hmem,hx⟩))) h5 h6 h8 h9 hI4 (fun h' hk' hI'=>?_)
   have n':=hk'.n
   exact hK4 h' hk' ⟨hI',by omega,by omega,by rw[hk'.k _ hy h5,h8],by rw[hk'.k _ hv h6,h9]⟩
  ·rintro b s1 h4 h5 e2 ⟨h6,h7,h8,h10,h11⟩
   have:=e2.n
   exact⟨hm _ _ _ _ e2 h6,by omega,by omega,by rw[e2.k _ h7,h10],by rw[e2.k _ h8,h11]⟩
  ·refine on ?_
   exact hK h3 ((e1.kp.trans hk2).trans hk3) hI3.1
theorem c_rnodes (t:Tm){h:H}{K:KVH}(hk:Ho (K (.fn 189 0 (nx []) 1 (nx [.ref h.n 0])) (nw h (.cells 3 (cT t))))):Ho (((sem Tryz.prog).C 150).r [eT t] h K noP):=by
 refine sem_fn prOk (by kernel_rfl) ?_
 rw[t_150]
 refine onc sT ?_
 exact hk
theorem rg_rnodes {σ:Type}{I:Bool→σ→H→Prop}{step:σ→Tm→σ × Bool}(hm:Mo I){cd:Rnd}{vs:LA}{hs:H}{ob:Nat}{t:Tm}{s0:σ}{K:Nat→H→Ans}(hf:Few t)(hb:ob<hs.n)(hg:gt hs ob=.cells 3 (cT t))(hI:I true s0 (nw hs (.frm cd vs 0)))
  (rd:∀(s:σ) (x:Tm) (h:H) (K:KVH),x∈po t→I true s h→(∀h',Kp hs.n h h'→I (step s x).2 (step s x).1 h'→Ho (K (.bool (step s x).2) h'))→Ho (wFr (gt h hs.n) fun cd vs st=>ck (Nat.beq st 0) ((compR Tryz.prog (drawsC Tryz.prog) cd).r (sem Tryz.prog) hs.n vs [eT x] h K)))
  (en:∀h',hs.n<h'.n→I (runL step s0 (po t)).2 (runL step s0 (po t)).1 h'→Ho (wFr (gt h' hs.n) fun _ _ s=>K s (kill h' hs.n))):Ho (rgT (sem Tryz.prog) (.fn 189 0 (nx []) 1 (nx [.ref ob 0])) cd vs hs K):=by
 unfold rgT
 rw[s_wFn]
 show Ho (((sem Tryz.prog).C 189).r [.yl hs.n,.ref ob 0] (nw hs (.frm cd vs 0)) (fun _ h'=>wFr (gt h' hs.n) fun _ _ s=>K s (kill h' hs.n)) noP)
 refine sem_fn prOk (by kernel_rfl) ?_
 rw[t_189]
 refine onc (And.intro hg sT) ?_
 have e:Ex (nw hs (.frm cd vs 0)) (st (nw (nw (nw hs (.frm cd vs 0)) (.cells 1 [.yl hs.n])) (.cells 1 [.nilf])) (hs.n+1+1) (.cells 1 [.fn 190 0 (nx []) 2 (nx [.ref (hs.n+1) 0,.ref (hs.n+1+1) 0])])):=(Ex.refl _).nw.nw.st (Nat.le_succ _)
 refine c_rvisit (o:=hs.n) (step:=step) (D:=fun x=>x∈po t) (fun s a h K hD hI hK=>sem_rnd prOk (rd s a h K hD hI hK)) hm (Nat.lt_succ_self _) (by omega) t 1000 s0 _ _ hf.B (by omega) (fun _ h=>h) (by show hs.n+1<hs.n+1+1+1;omega) (by show hs.n+1+1<hs.n+1+1+1;omega) ?_ ?_ (hm _ _ _ _ e hI) (fun h' hk' hI'=>?_)
 ·simp[s_gs,s_gn,s_nn,s_bqt,s_bqf]
 ·simp[s_gs,s_bqt]
 ·refine on ?_
  have n':hs.n+1+1+1≤h'.n:=hk'.n
  exact en h' (by omega) hI'
end
end Go.Proofs.YtgmjpmeddajmgaaGreat
namespace Go.Proofs.YtgmjpmeddajmgaaGreat
open Go Go.Avm Go.Bvm
set_option maxRecDepth 100000
set_option linter.unusedVariables false
set_option linter.unusedSimpArgs false
set_option linter.defProp false
noncomputable section
attribute [local irreducible] jn jv br lp ck iff wB wG wRef wSl wCl wAg wTu wStr wFn wIfc wInt wCe wRe wMp wFr ad sb ml lt le eqi nei eq1 isNil un cvt fa len lens ix ixA ixS ixV ld1 ldn sto al bx pt bs ms app cpy sli lkm mup men mst mrg srg snx mnx mtr tas lenm rgT rgE finR mfind mset mput wKey wMa sV sem fin Ho
theorem t_97 (t:Tb)(h:H)(K Pn:KVH)(x0:AV):(compF Tryz.prog (drawsC Tryz.prog) 97).r t [x0] h K Pn=ck true (al 1 [AV.nilm] (nw h (CO.map (keyTy Tryz.prog 132) [])) fun v h_1=>sto 1 h_1 v (AV.mp h.2) fun h=>len x0 fun v_1=>jn (fun l h=>e1 l fun x=>ld1 h x fun v=>K v h) fun k=>lp (fun L l h=>e11 l fun x x_1 x_2 x_3 x_4 x_5 x_6 x_7 x_8 x_9 x_10=>lt x_4 x_5 fun v=>jn (fun l h=>e9 l fun x x_11 x_12 x_13 x_14 x_15 x_16 x_17 x_18=>jn (fun l h=>e11 l fun x x_19 x_20 x_21 x_22 x_23 x_24 x_25 x_26 x_27 x_28=>ad x_22 (mkI 1) fun v=>L [x,x_19,x_20,x_21,v,x_23,x_24,x_25,x_26,x_27,x_28] h) fun k_1=>ix 3 x_15 x_13 fun v=>ldn 3 h v fun v=>al 3 [mkI 0,mkI 0,AV.fz Fz.nil 0 0 fun _ _=>AV.any] h fun v_2 h=>sto 3 h v_2 v fun h=>ldn 3 h v_2 fun v=>(t.C 150).r [v] h (fun v h=>jn k_1 fun k_2=>rgT t v (rdOf Tryz.prog 97 0 [19,16,6,3] 27) [x,x_11,x_16,x_17] h fun n h=>rgE n (k_2 [x,x_11,v,x_12,x_13,x_14,x_15,x_16,v_2,x_17,x_18] h) (K x_18 h) fun n=>iff (n.beq 2) (k_2 [x,x_11,v,x_12,x_13,x_14,x_15,x_16,v_2,x_17,x_18] h) (iff (n.beq 1) (k_1 [x,x_11,v,x_12,x_13,x_14,x_15,x_16,v_2,x_17,x_18] h) (iff (n.beq 0) (k [x_17] h) none))) Pn) fun k_1=>wB v (k_1 [x,x_1,v,x_4,x_5,x_6,x_7,x_9,x_10] h) (k [x_9] h)) [AV.any,AV.any,AV.any,AV.any,mkI 0,v_1,x0,AV.any,AV.any,v,AV.nilm] h):=by kernel_rfl
theorem t_98 (t:Tb)(h:H)(K Pn:KVH)(x0:AV):(compF Tryz.prog (drawsC Tryz.prog) 98).r t [x0] h K Pn=ck true (bx x0 h fun v h=>al 1 [AV.nilm] (nw h (CO.map (keyTy Tryz.prog 132) [])) fun v_1 h_1=>sto 1 h_1 v_1 (AV.mp h.2) fun h=>ldn 3 h v fun v=>(t.C 150).r [v] h (fun v h=>jn (fun l h=>e1 l fun x=>ld1 h x fun v=>K v h) fun k=>rgT t v (rdOf Tryz.prog 98 0 [11,8,4,3] 18) [AV.any,AV.any,AV.any,v_1] h fun n h=>rgE n (k [v_1] h) (K AV.nilm h) fun n=>iff (n.beq 0) (k [v_1] h) none) Pn):=by kernel_rfl
theorem r_97_0 (t:Tb)(o:Nat)(h:H)(K:KVH)(y0 y1 y2 y3 x0:AV):(compR Tryz.prog (drawsC Tryz.prog) (rdOf Tryz.prog 97 0 [19,16,6,3] 27)).r t o [y0,y1,y2,y3] [x0] h K=ck true (al 3 [mkI 0,mkI 0,AV.fz Fz.nil 0 0 fun _ _=>AV.any] h fun v h=>sto 3 h v x0 fun h=>wFr (gt h o) fun cd1 vs1 s1=>ck (s1.beq 0) (jn (fun l h=>finR o K 0 (AV.bool true) h) fun k=>fa 0 v fun v_1=>ld1 (st h o (CO.frm cd1 vs1 1)) v_1 fun v_2=>eqi v_2 (mkI 1) fun v_3=>jn k fun k=>wB v_3 (ld1 (st h o (CO.frm cd1 vs1 1)) y3 fun v_4=>fa 1 v fun v=>ld1 (st h o (CO.frm cd1 vs1 1)) v fun v=>lkm 3 (keyC Tryz.prog 3) (mkI 0) false v_4 v (st h o (CO.frm cd1 vs1 1)) fun v_5=>ad v_5 (mkI 1) fun v_6=>mup 3 (keyC Tryz.prog 3) v_4 v v_6 (st h o (CO.frm cd1 vs1 1)) fun h=>k [] h) (k [] (st h o (CO.frm cd1 vs1 1))))):=by kernel_rfl
theorem r_98_0 (t:Tb)(o:Nat)(h:H)(K:KVH)(y0 y1 y2 y3 x0:AV):(compR Tryz.prog (drawsC Tryz.prog) (rdOf Tryz.prog 98 0 [11,8,4,3] 18)).r t o [y0,y1,y2,y3] [x0] h K=ck true (al 3 [mkI 0,mkI 0,AV.fz Fz.nil 0 0 fun _ _=>AV.any] h fun v h=>sto 3 h v x0 fun h=>wFr (gt h o) fun cd1 vs1 s1=>ck (s1.beq 0) (jn (fun l h=>finR o K 0 (AV.bool true) h) fun k=>fa 0 v fun v_1=>ld1 (st h o (CO.frm cd1 vs1 1)) v_1 fun v_2=>eqi v_2 (mkI 8) fun v_3=>jn k fun k=>wB v_3 (ld1 (st h o (CO.frm cd1 vs1 1)) y3 fun v_4=>fa 1 v fun v=>ld1 (st h o (CO.frm cd1 vs1 1)) v fun v=>lkm 3 (keyC Tryz.prog 3) (mkI 0) false v_4 v (st h o (CO.frm cd1 vs1 1)) fun v_5=>ad v_5 (mkI 1) fun v_6=>mup 3 (keyC Tryz.prog 3) v_4 v v_6 (st h o (CO.frm cd1 vs1 1)) fun h=>k [] h) (k [] (st h o (CO.frm cd1 vs1 1))))):=by kernel_rfl
abbrev Cn:=List Int × (Int→Int)
def updf (f:Int→Int)(k w:Int):Int→Int:=fun j=>if j=k then w else f j
def cStep (q:Int)(s:Cn)(x:Tm):Cn × Bool:=if x.op=q then((ins s.1 x.n,updf s.2 x.n (wr .i64 (s.2 x.n+1))),true) else(s,true)
def cV (f:Int→Int):Int→AV:=fun n=>.int .i64 (f n)
def cMap (s:Cn):CO:=.map 3 (ent kI (cV s.2) s.1)
def cOk (s:Cn):Prop:=s.1.Nodup∧∀n,n∉s.1→s.2 n=0
theorem cV_upd {f:Int→Int}{k w:Int}:upd (cV f) k (.int .i64 w)=cV (updf f k w):=by
 funext j
 unfold upd cV updf
 split <;> rfl
theorem cStep_ok {q:Int}{s:Cn}{x:Tm}(h:cOk s):cOk (cStep q s x).1:=by
 unfold cStep
 split
 ·refine⟨ins_nodup h.1,fun n hn=>?_⟩
  have h1:n∉s.1∧n≠x.n:=⟨fun e=>hn (ins_mem.2 (.inl e)),fun e=>hn (ins_mem.2 (.inr e))⟩
  show updf s.2 x.n _ n=0
  unfold updf
  rw[if_neg h1.2]
  exact h.2 n h1.1
 ·exact h
theorem cStep_t {q:Int}{s:Cn}{x:Tm}:(cStep q s x).2=true:=by unfold cStep;split <;> rfl
theorem cput {s:Cn}{n w:Int}(h:s.1.Nodup):(n∈s.1→mset (@List.idxOf _ instBEqOfDecidableEq n s.1) (.int .i64 w) (ent kI (cV s.2) s.1)=ent kI (cV (updf s.2 n w)) (ins s.1 n))∧(n∉s.1→mput (.int .i64 n) (.int .i64 w) (ent kI (cV s.2) s.1)=ent kI (cV (updf s.2 n w)) (ins s.1 n)):=by
 unfold ins
 refine⟨fun c=>?_,fun c=>?_⟩
 ·rw[mset_ent h c,cV_upd,if_pos c]
 ·rw[show Value.int .i64 n=kI n from rfl,mput_ent c,cV_upd,if_neg c]
def cI2 (hs:H)(m bx o:Nat)(fr:CO)(_:Bool)(s:Cn)(h:H):Prop:=(Ex hs h∧hs.n≤m∧m<bx∧bx<o∧o<h.n)∧cOk s∧gt h m=cMap s∧gt h bx=.cells 1 [.mp m]∧gt h o=fr
theorem cMo (hs:H)(m bx o:Nat)(fr:CO):Mo (cI2 hs m bx o fr):=by
 rintro b s h h' e ⟨⟨h1,h2,h3,h4,h5⟩,h6,h7,h8,h9⟩
 have:=e.n
 exact⟨⟨h1.trans e,h2,h3,h4,by omega⟩,h6,by rw[e.k _ (by omega),h7],by rw[e.k _ (by omega),h8],by rw[e.k _ h5,h9]⟩
def occ (q:Int)(L:List Tm):List Int:=(L.filter fun x=>decide (x.op=q)).map Tm.n
theorem occ_app {q:Int}{a b:List Tm}:occ q (a++b)=occ q a++occ q b:=by unfold occ;rw[List.filter_append,List.map_append]
theorem cRun {q:Int}:∀(L:List Tm) (s:Cn),cOk s→(∀n,0≤s.2 n∧s.2 n+L.length≤1000000000)→∃s',runL (cStep q) s L=(s',true)∧cOk s'∧(∀n,n∈s'.1↔n∈s.1∨n∈occ q L)∧(∀n,s'.2 n=s.2 n+(occ q L).count n)∧s'.1.length≤s.1.length+L.length
 |[],s,h,hb=>⟨s,rfl,h,fun n=>by simp[occ],fun n=>by simp[occ],by simp⟩
 |x::r,s,h,hb=>by
  have hbx:=hb x.n
  rw[List.length_cons] at hbx
  have hw:wr .i64 (s.2 x.n+1)=s.2 x.n+1:=wr64 (by omega) (by omega)
  have hb':∀n,0≤(cStep q s x).1.2 n∧(cStep q s x).1.2 n+r.length≤1000000000:=fun n=>by
   have:=hb n
   rw[List.length_cons] at this
   unfold cStep
   split
   ·show 0≤updf s.2 x.n _ n∧updf s.2 x.n _ n+_≤_
    unfold updf
    split
    ·rw[hw];omega
    ·omega
   ·show 0≤s.2 n∧s.2 n+_≤_
    omega
  obtain⟨s',h1,h2,h3,h4,h5⟩:=cRun r (cStep q s x).1 (cStep_ok h) hb'
  refine⟨s',?_,h2,fun n=>?_,fun n=>?_,?_⟩
  ·rw[runL,if_pos cStep_t,h1]
  ·rw[h3]
   unfold cStep occ
   by_cases c:x.op=q
   ·rw[if_pos c,List.filter_cons_of_pos (by simpa using c),List.map_cons,List.mem_cons]
    show(n∈ins s.1 x.n∨_)↔_
    rw[ins_mem]
    exact⟨fun h=>h.elim (fun h=>h.elim .inl fun e=>.inr (.inl e)) fun h=>.inr (.inr h),fun h=>h.elim (fun h=>.inl (.inl h)) fun h=>h.elim (fun e=>.inl (.inr e)) .inr⟩
   ·rw[if_neg c,List.filter_cons_of_neg (by simpa using c)]
  ·rw[h4]
   unfold cStep occ
   by_cases c:x.op=q
   ·rw[if_pos c,List.filter_cons_of_pos (by simpa using c),List.map_cons,List.count_cons]
    show updf s.2 x.n _ n+_=_
    unfold updf
    by_cases e:n=x.n
    ·subst e
     rw[if_pos rfl,hw]
     simp
     omega
    ·rw[if_neg e]
     have:(x.n==n)=false:=by simp;exact fun h=>e h.symm
     rw[this]
     simp
   ·rw[if_neg c,List.filter_cons_of_neg (by simpa using c)]
  ·have:(cStep q s x).1.1.length≤s.1.length+1:=by
    unfold cStep
    split
    ·show(ins s.1 x.n).length≤_
     unfold ins
     split <;> simp
    ·simp
   rw[List.length_cons]
   omega
theorem c_rndvariables {hs:H}{m bx o:Nat}{y0 y1 y2:AV}(s:Cn)(x:Tm)(h:H)(K:KVH)(hD:x.op=1 → -1000000≤x.n∧x.n≤1000000)(hI:cI2 hs m bx o (.frm (rdOf Tryz.prog 97 0 [19,16,6,3] 27) [y0,y1,y2,.ref bx 0] 0) true s h)
  (hK:∀h',Kp o h h'→cI2 hs m bx o (.frm (rdOf Tryz.prog 97 0 [19,16,6,3] 27) [y0,y1,y2,.ref bx 0] 0) (cStep 1 s x).2 (cStep 1 s x).1 h'→Ho (K (.bool (cStep 1 s x).2) h')) :
  Ho (wFr (gt h o) fun cd vs st=>ck (Nat.beq st 0) ((compR Tryz.prog (drawsC Tryz.prog) cd).r (sem Tryz.prog) o vs [eT x] h K)):=by
 obtain⟨⟨hex,h1,h2,h3,h4⟩,hok,gm,gb,go⟩:=hI
 have hexn:=hex.n
 rw[go,s_wFr,show Nat.beq 0 0=true from rfl,s_ck]
 rw[r_97_0]
 have fin:∀s',cStep 1 s x=(s',true)→∀h',h.n≤h'.n→(∀q,q≠m→q≠o→q<h.n→gt h' q=gt h q)→gt h' m=cMap s'→gt h' o=.frm (rdOf Tryz.prog 97 0 [19,16,6,3] 27) [y0,y1,y2,.ref bx 0] 0→Ho (K (.bool true) h'):=fun s' e h' hn hq hm ho=>by
  have h0:=cStep_ok (q:=1) (x:=x) hok
  rw[e] at hK h0
  exact hK h' ⟨hn,fun q h5 h6=>hq q (by omega) (by omega) h6⟩ ⟨⟨⟨by omega,fun q h5=>by rw[hq q (by omega) (by omega) (by omega)];exact hex.k q h5⟩,h1,h2,h3,by omega⟩,h0,hm,by rw[hq _ (by omega) (by omega) (by omega)];exact gb,ho⟩
 unfold cMap at gm
 have G:=And.intro gm <| And.intro gb <| And.intro go <| And.intro @cT_spl sP
 unfold cStep at fin
 by_cases c:x.op=1
 ·obtain⟨hn1,hn2⟩:=hD c
  have hk:=keyI_ok hn1 hn2
  rw[if_pos c] at fin
  have hput:=cput (s:=s) (n:=x.n) (w:=wr .i64 (s.2 x.n+1)) hok.1
  refine onc (And.intro c <| And.intro hk <| And.intro @s_wMa <| And.intro @s_wKI <| And.intro @s_lkm1 <| And.intro @s_mfI G) (ho_br (fun c2=>?_) (fun c2=>?_))
  ·have e1:=hput.1 c2
   have e2:cV s.2 x.n=.int .i64 (s.2 x.n):=rfl
   refine onc (And.intro c <| And.intro c2 <| And.intro hk <| And.intro e2 <| And.intro @s_adw <| And.intro e1 <| And.intro sM G) ?_
   refine fin _ rfl _ (Nat.le_succ _) (fun q h5 h6 h7=>?_) ?_ ?_
   all_goals simp(disch:=omega) only [sG,cMap]
  ·have e1:=hput.2 c2
   have hw1:wr .i64 (s.2 x.n+1)=1:=by rw[hok.2 _ c2];rfl
   rw[hw1] at e1 fin
   refine onc (And.intro c <| And.intro c2 <| And.intro hk <| And.intro @s_adw <| And.intro e1 <| And.intro sM G) ?_
   refine fin _ rfl _ (Nat.le_succ _) (fun q h5 h6 h7=>?_) ?_ ?_
   all_goals simp(disch:=omega) only [sG,cMap]
 ·rw[if_neg c] at fin
  refine onc (And.intro c G) ?_
  refine fin _ rfl _ (Nat.le_succ _) (fun q h5 h6 h7=>?_) ?_ ?_
  all_goals simp(disch:=omega) only [sG,cMap,gm]
theorem cRun_t {q:Int}:∀(L:List Tm) (s:Cn),(runL (cStep q) s L).2=true
 |[],_=>rfl
 |x::r,s=>by rw[runL,if_pos cStep_t];exact cRun_t r _
def cn0:Cn:=([],fun _=>0)
theorem cn0_ok:cOk cn0:=⟨List.nodup_nil,fun _ _=>rfl⟩
theorem cn0_map:cMap cn0=.map 3 []:=rfl
theorem c_variables (k:Fz)(l:List Tm)(hl:l.length≤1000)(hf:∀t,t∈l→Few t)(hv:∀t,t∈l→∀x,x∈po t→x.op=1 → -1000000≤x.n∧x.n≤1000000){hs:H}{K:KVH}
  (hK:∀h' m,Ex hs h'→hs.n≤m→m<h'.n→cOk (runL (cStep 1) cn0 (l.flatMap po)).1→gt h' m=cMap (runL (cStep 1) cn0 (l.flatMap po)).1→Ho (K (.mp m) h')):Ho (((sem Tryz.prog).C 97).r [eTs k l] hs K noP):=by
 refine sem_fn prOk (by kernel_rfl) ?_
 rw[t_97]
 have hkt:keyTy Tryz.prog 132=3:=by kernel_rfl
 refine onc (And.intro hkt sT) ?_
 refine ho_lp (fun (y:Nat × Cn) v h=>(∃a b c d e f,v=[a,b,c,d,.int .i64 y.1,.int .i64 l.length,eTs k l,e,f,.ref (hs.n+1) 0,.nilm])∧y.1≤l.length∧Ex hs h∧hs.n+1<h.n∧cOk y.2∧gt h hs.n=cMap y.2∧gt h (hs.n+1)=.cells 1 [.mp hs.n]∧runL (cStep 1) cn0 (l.flatMap po)=runL (cStep 1) y.2 ((l.drop y.1).flatMap po)) (fun y=>l.length-y.1) (0,cn0) ⟨⟨_,_,_,_,_,_,rfl⟩,Nat.zero_le _,(Ex.refl hs).nw.nw.st (Nat.le_succ _),by show hs.n+1<hs.n+1+1;omega,cn0_ok,?_,?_,rfl⟩ (by show l.length-0<_;omega) ?_
 ·simp(disch:=omega) only [sG,cn0_map]
 ·simp(disch:=omega) only [sG]
 rintro ⟨i,s⟩ v h L ⟨⟨a,b,c,d,e,f,rfl⟩,hi,hex,hn,hok,gm,gb,he⟩ ih
 simp only at hi hex hok gm he
 refine on (ho_br (fun c1=>?_) (fun c1=>?_))
 ·have hmem:l.getD i default∈l:=getD_mem (by omega)
  rw[drop_cons (l:=l) (i:=i) (by omega),List.flatMap_cons,runL_app,if_pos (cRun_t _ _)] at he
  refine onc (And.intro @cT_spl sT) ?_
  refine c_rnodes _ ?_
  refine on ?_
  have e2:Ex h (nw (st (nw h (.cells 3 [.int .i64 0,.int .i64 0,.fz .nil 0 0 fun _ _=>.any])) h.n (.cells 3 (cT (l.getD i default)))) (.cells 3 (cT (l.getD i default)))):=((Ex.refl h).nw.st (Nat.le_refl _)).nw
  have e3:=hex.trans e2
  refine rg_rnodes (step:=cStep 1) (s0:=s) (I:=cI2 hs hs.n (hs.n+1) (h.n+1+1) _) (cMo _ _ _ _ _) (hf _ hmem) (ob:=h.n+1) (by show h.n+1<h.n+1+1;omega) ?_ ⟨⟨e3.nw,Nat.le_refl _,Nat.lt_succ_self _,by omega,Nat.lt_succ_self _⟩,hok,?_,?_,gt_nw _ _⟩ (fun s x h K hx hI hK=>c_rndvariables s x h K (hv _ hmem x hx) hI hK) (fun h' hn' hI=>?_)
  ·simp(disch:=omega) only [sG]
  ·rw[e2.nw.k _ (by omega),gm]
  ·rw[e2.nw.k _ (by omega),gb]
  ·obtain⟨⟨i1,i2,i3,i4,i5⟩,i6,i7,i8,i9⟩:=hI
   show Ho (wFr (gt h' (h.n+1+1)) _)
   rw[i9,s_wFr]
   refine on ?_
   exact ih (i+1,_) _ _ ⟨⟨_,_,_,_,_,_,rfl⟩,by show i+1≤_;omega,i1.st (by omega),by show hs.n+1<h'.n;omega,i6,by rw[gt_kill_ne (by omega)];exact i7,by rw[gt_kill_ne (by omega)];exact i8,he⟩ (by show l.length-(i+1)<l.length-i;omega)
 ·rw[List.drop_eq_nil_of_le (by omega),List.flatMap_nil,runL] at he
  refine onc gb ?_
  rw[he] at hK
  exact hK h _ hex (Nat.le_refl _) (by omega) hok gm
theorem cnt_of {q:Int}{L:List Tm}(hL:L.length≤90000):(∀n,n∈(runL (cStep q) cn0 L).1.1↔n∈occ q L)∧(∀n,(runL (cStep q) cn0 L).1.2 n=(occ q L).count n)∧(runL (cStep q) cn0 L).1.1.length≤90000:=by
 obtain⟨s',h1,_,h3,h4,h5⟩:=cRun (q:=q) L cn0 cn0_ok (fun n=>by show(0:Int)≤0∧(0:Int)+_≤_;omega)
 rw[h1]
 refine⟨fun n=>by rw[h3];simp[cn0],fun n=>by rw[h4];show(0:Int)+_=_;omega,?_⟩
 have:(cn0.1:List Int).length=0:=rfl
 show s'.1.length≤_
 omega
theorem po_len {t:Tm}(h:Few t):(po t).length≤1000:=by
 obtain⟨left,d,hl,hw⟩:=h
 have:=weigh_le t left d
 rw[weigh_pre t left d 1 (by
  rcases Int.lt_or_le left (-1) with h|h
  ·rw[weigh_eq,if_pos (.inl (by omega))] at hw;omega
  ·exact h)] at hw
 split at hw
 ·rename_i c
  unfold po
  rw[List.length_map]
  omega
 ·omega
theorem pos_len:∀{l:List Tm},(∀t,t∈l→Few t)→(l.flatMap po).length≤1000*l.length
 |[],_=>by simp
 |t::r,h=>by
  have h1:=po_len (h t List.mem_cons_self)
  have h2:=pos_len (l:=r) fun s hs=>h s (List.mem_cons_of_mem _ hs)
  rw[List.flatMap_cons,List.length_append,List.length_cons]
  omega
theorem c_rndlets {hs:H}{m bx o:Nat}{y0 y1 y2:AV}(s:Cn)(x:Tm)(h:H)(K:KVH)(hD:x.op=8 → -1000000≤x.n∧x.n≤1000000)(hI:cI2 hs m bx o (.frm (rdOf Tryz.prog 98 0 [11,8,4,3] 18) [y0,y1,y2,.ref bx 0] 0) true s h)
  (hK:∀h',Kp o h h'→cI2 hs m bx o (.frm (rdOf Tryz.prog 98 0 [11,8,4,3] 18) [y0,y1,y2,.ref bx 0] 0) (cStep 8 s x).2 (cStep 8 s x).1 h'→Ho (K (.bool (cStep 8 s x).2) h')) :
  Ho (wFr (gt h o) fun cd vs st=>ck (Nat.beq st 0) ((compR Tryz.prog (drawsC Tryz.prog) cd).r (sem Tryz.prog) o vs [eT x] h K)):=by
 obtain⟨⟨hex,h1,h2,h3,h4⟩,hok,gm,gb,go⟩:=hI
 have hexn:=hex.n
 rw[go,s_wFr,show Nat.beq 0 0=true from rfl,s_ck]
 rw[r_98_0]
 have fin:∀s',cStep 8 s x=(s',true)→∀h',h.n≤h'.n→(∀q,q≠m→q≠o→q<h.n→gt h' q=gt h q)→gt h' m=cMap s'→gt h' o=.frm (rdOf Tryz.prog 98 0 [11,8,4,3] 18) [y0,y1,y2,.ref bx 0] 0→Ho (K (.bool true) h'):=fun s' e h' hn hq hm ho=>by
  have h0:=cStep_ok (q:=8) (x:=x) hok
  rw[e] at hK h0
  exact hK h' ⟨hn,fun q h5 h6=>hq q (by omega) (by omega) h6⟩ ⟨⟨⟨by omega,fun q h5=>by rw[hq q (by omega) (by omega) (by omega)];exact hex.k q h5⟩,h1,h2,h3,by omega⟩,h0,hm,by rw[hq _ (by omega) (by omega) (by omega)];exact gb,ho⟩
 unfold cMap at gm
 have G:=And.intro gm <| And.intro gb <| And.intro go <| And.intro @cT_spl sP
 unfold cStep at fin
 by_cases c:x.op=8
 ·obtain⟨hn1,hn2⟩:=hD c
  have hk:=keyI_ok hn1 hn2
  rw[if_pos c] at fin
  have hput:=cput (s:=s) (n:=x.n) (w:=wr .i64 (s.2 x.n+1)) hok.1
  refine onc (And.intro c <| And.intro hk <| And.intro @s_wMa <| And.intro @s_wKI <| And.intro @s_lkm1 <| And.intro @s_mfI G) (ho_br (fun c2=>?_) (fun c2=>?_))
  ·have e1:=hput.1 c2
   have e2:cV s.2 x.n=.int .i64 (s.2 x.n):=rfl
   refine onc (And.intro c <| And.intro c2 <| And.intro hk <| And.intro e2 <| And.intro @s_adw <| And.intro e1 <| And.intro sM G) ?_
   refine fin _ rfl _ (Nat.le_succ _) (fun q h5 h6 h7=>?_) ?_ ?_
   all_goals simp(disch:=omega) only [sG,cMap]
  ·have e1:=hput.2 c2
   have hw1:wr .i64 (s.2 x.n+1)=1:=by rw[hok.2 _ c2];rfl
   rw[hw1] at e1 fin
   refine onc (And.intro c <| And.intro c2 <| And.intro hk <| And.intro @s_adw <| And.intro e1 <| And.intro sM G) ?_
   refine fin _ rfl _ (Nat.le_succ _) (fun q h5 h6 h7=>?_) ?_ ?_
   all_goals simp(disch:=omega) only [sG,cMap]
 ·rw[if_neg c] at fin
  refine onc (And.intro c G) ?_
  refine fin _ rfl _ (Nat.le_succ _) (fun q h5 h6 h7=>?_) ?_ ?_
  all_goals simp(disch:=omega) only [sG,cMap,gm]
theorem c_letsM (t:Tm)(hf:Few t)(hv:∀x,x∈po t→x.op=8 → -1000000≤x.n∧x.n≤1000000){hs:H}{K:KVH}
  (hK:∀h' m,Ex hs h'→hs.n≤m→m<h'.n→cOk (runL (cStep 8) cn0 (po t)).1→gt h' m=cMap (runL (cStep 8) cn0 (po t)).1→Ho (K (.mp m) h')):Ho (((sem Tryz.prog).C 98).r [eT t] hs K noP):=by
 refine sem_fn prOk (by kernel_rfl) ?_
 rw[t_98]
 have hkt:keyTy Tryz.prog 132=3:=by kernel_rfl
 refine onc (And.intro hkt sT) ?_
 refine c_rnodes _ ?_
 refine on ?_
 have e2:Ex hs (nw (st (nw (nw (nw hs (.cells 3 (cT t))) (.map 3 [])) (.cells 1 [.nilm])) (hs.n+1+1) (.cells 1 [.mp (hs.n+1)])) (.cells 3 (cT t))):=((Ex.refl hs).nw.nw.nw.st (by omega)).nw
 refine rg_rnodes (step:=cStep 8) (s0:=cn0) (I:=cI2 hs (hs.n+1) (hs.n+1+1) (hs.n+1+1+1+1) _) (cMo _ _ _ _ _) hf (ob:=hs.n+1+1+1) (by show hs.n+1+1+1<hs.n+1+1+1+1;omega) ?_ ⟨⟨e2.nw,by omega,by omega,by omega,Nat.lt_succ_self _⟩,cn0_ok,?_,?_,gt_nw _ _⟩ (fun s x h K hx hI hK=>c_rndlets s x h K (hv x hx) hI hK) (fun h' hn' hI=>?_)
 ·simp(disch:=omega) only [sG]
 ·simp(disch:=omega) only [sG,cn0_map]
 ·simp(disch:=omega) only [sG]
 ·obtain⟨⟨i1,i2,i3,i4,i5⟩,i6,i7,i8,i9⟩:=hI
  show Ho (wFr (gt h' (hs.n+1+1+1+1)) _)
  rw[i9,s_wFr]
  have i8':gt (kill h' (hs.n+1+1+1+1)) (hs.n+1+1)=.cells 1 [.mp (hs.n+1)]:=by rw[gt_kill_ne (by omega)];exact i8
  refine onc i8' ?_
  exact hK _ _ (i1.st (by omega)) (by omega) (by show hs.n+1<h'.n;omega) i6 (by rw[gt_kill_ne (by omega)];exact i7)
end
end Go.Proofs.YtgmjpmeddajmgaaGreat
namespace Go.Proofs.YtgmjpmeddajmgaaGreat
open Go Go.Avm Go.Bvm
set_option maxRecDepth 100000
set_option linter.unusedVariables false
set_option linter.unusedSimpArgs false
set_option linter.defProp false
noncomputable section
attribute [local irreducible] jn jv br lp ck iff wB wG wRef wSl wCl wAg wTu wStr wFn wIfc wInt wCe wRe wMp wFr ad sb ml lt le eqi nei eq1 isNil un cvt fa len lens ix ixA ixS ixV ld1 ldn sto al bx pt bs ms app cpy sli lkm mup men mst mrg srg snx mnx mtr tas lenm rgT rgE finR mfind mset mput wKey wMa sV sem fin Ho
theorem t_205 (t:Tb)(h:H)(K Pn:KVH)(x0 x1:AV):(compF Tryz.prog (drawsC Tryz.prog) 205).r t [x0,x1] h K Pn=ck true ((t.C 210).r [x0,x1] h (fun v h=>le (mkI 0) v fun v=>K v h) Pn):=by kernel_rfl
theorem t_210 (t:Tb)(h:H)(K Pn:KVH)(x0 x1:AV):(compF Tryz.prog (drawsC Tryz.prog) 210).r t [x0,x1] h K Pn=ck true (len x0 fun v=>jn (fun l h=>K (AV.int IntKind.i64 (Int.negSucc 0)) h) fun k=>lp (fun L l h=>e8 l fun x x_1 x_2 x_3 x_4 x_5 x_6 x_7=>lt x_2 x_3 fun v=>jn (fun l h=>e6 l fun x x_8 x_9 x_10 x_11 x_12=>jn (fun l h=>e8 l fun x x_13 x_14 x_15 x_16 x_17 x_18 x_19=>ad x_14 (mkI 1) fun v=>L [x,x_13,v,x_15,x_16,x_17,x_18,x_19] h) fun k=>ix 1 x_12 x_8 fun v=>ld1 h v fun v=>eqi x_11 v fun v=>jn k fun k=>wB v (K x_8 h) (k [v,x,x_8,x_9,x_8,x_10,x_11,x_12] h)) fun k_1=>wB v (k_1 [v,x_2,x_3,x_5,x_6,x_7] h) (k [] h)) [AV.any,AV.any,mkI 0,v,AV.any,mkI 0,x1,x0] h):=by kernel_rfl
theorem t_195 (t:Tb)(h:H)(K Pn:KVH)(x0:AV):(compF Tryz.prog (drawsC Tryz.prog) 195).r t [x0] h K Pn=ck true (isNil x0 fun c=>jn (fun l h=>e1 l fun x=>bs 0 0 1 [] h fun v h=>app 1 8 v x h fun v h=>K v h) fun k=>wB (AV.bool (false ^^ c)) (K (AV.fz Fz.nil 0 0 fun _ _=>AV.any) h) (k [x0] h)):=by kernel_rfl
structure RdI (h:H)(v:AV)(l:List Int):Prop where
 len:∀K,len v K=K (.int .i64 (l.length:Nat))
 at_:∀i:Nat,i<l.length→∃p,(∀K,ix 1 v (.int .i64 i) K=K p)∧(∀K,ld1 h p K=K (.int .i64 (l.getD i default)))
theorem cI_cells (l:List Int):cells cI l=l.map fun n=>.int .i64 n:=by
 unfold cells
 induction l with
 |nil=>rfl
 |cons a r ih=>rw[List.flatMap_cons,ih];rfl
theorem cI_cells_len (l:List Int):(cells cI l).length=l.length:=by rw[cI_cells,List.length_map]
theorem cI_at {l:List Int}{i:Nat}(hi:i<l.length):nx (cells cI l) i=.int .i64 (l.getD i default):=by
 have:=cells_nx (e:=cI) cI_len l i 0 hi (by omega)
 rw[Nat.mul_one,Nat.add_zero] at this
 rw[this];rfl
theorem RdI.nil {h:H}{k:Fz}{s:Nat}{g:Nat→Nat→AV}:RdI h (.fz k s 0 g) []:=⟨fun K=>s_lenf,fun i hi=>absurd hi (by simp)⟩
theorem RdI.sl {h:H}{o c:Nat}{ex:Bool}{l:List Int}(hg:gt h o=.cells l.length (cells cI l)):RdI h (.sl o 0 l.length c ex 1) l:=⟨fun K=>s_lens,fun i hi=>⟨_,fun K=>s_ixs (by omega) (by omega),fun K=>by
 rw[s_ld1r,hg,s_wRe,s_ckle (by simp;omega),Int.toNat_natCast,Nat.zero_add,Nat.mul_one,cI_at hi]⟩⟩
theorem RdI.ow {h:H}{o:Nat}{w:Bool}{l:List Int}(hg:gt h o=.cells l.length (cells cI l)):RdI h (.ow w o l.length 1) l:=⟨fun K=>s_leno,fun i hi=>⟨_,fun K=>s_ixo (by omega) (by omega),fun K=>by
 rw[s_ld1r,hg,s_wRe,s_ckle (by simp;omega),Int.toNat_natCast,Nat.mul_one,cI_at hi]⟩⟩
theorem c_Index {h:H}{v:AV}{l:List Int}{n:Int}{K:KVH}(r:RdI h v l)(hl:l.length≤90000)(hk:∀i:Int,((n∈l∧0≤i)∨(n∉l∧i = -1))→Ho (K (.int .i64 i) h)):Ho (((sem Tryz.prog).C 210).r [v,.int .i64 n] h K noP):=by
 refine sem_fn prOk (by kernel_rfl) ?_
 rw[t_210]
 refine onc r.len ?_
 refine ho_lp (fun (i:Nat) x h'=>(∃a b c d,x=[a,b,.int .i64 i,.int .i64 l.length,c,d,.int .i64 n,v])∧h'=h∧i≤l.length∧n∉l.take i) (fun i=>l.length-i) 0 ⟨⟨_,_,_,_,rfl⟩,rfl,Nat.zero_le _,fun hx=>by cases hx⟩ (by omega) ?_
 rintro i x h' L ⟨⟨a,b,c,d,rfl⟩,rfl,hi,hm⟩ ih
 refine on (ho_br (fun c1=>?_) (fun c1=>?_))
 ·obtain⟨p,e1,e2⟩:=r.at_ i (by omega)
  refine onc (And.intro e1 e2) (ho_br (fun c2=>?_) (fun c2=>?_))
  ·exact hk _ (.inl ⟨c2▸getD_mem (by omega),by omega⟩)
  ·refine on ?_
   exact ih (i+1) _ _ ⟨⟨_,_,_,_,rfl⟩,rfl,by omega,fun hx=>by
    rw[take_snoc (by omega),List.mem_append,List.mem_singleton] at hx
    exact hx.elim hm c2⟩ (by omega)
 ·rw[List.take_of_length_le (by omega)] at hm
  exact hk _ (.inr ⟨hm,rfl⟩)
theorem c_Contains {h:H}{v:AV}{l:List Int}{n:Int}{K:KVH}(r:RdI h v l)(hl:l.length≤90000)(hk:Ho (K (.bool (decide (n∈l))) h)):Ho (((sem Tryz.prog).C 205).r [v,.int .i64 n] h K noP):=by
 refine sem_fn prOk (by kernel_rfl) ?_
 rw[t_205]
 refine on ?_
 refine c_Index r hl (fun i hi=>?_)
 refine on ?_
 have:decide (0≤i)=decide (n∈l):=decide_eq_decide.2 ⟨fun h=>hi.elim And.left fun ⟨_,e⟩=>by omega,fun h=>hi.elim And.right fun ⟨e,_⟩=>absurd h e⟩
 rw[this]
 exact hk
def Op (h:H)(v:AV)(l:List Int):Prop:=
 (l=[]∧v=.fz .nil 0 0 fun _ _=>.any)∨(∃o,l.length=1∧v=.ow true o 1 1∧o<h.n∧gt h o=.cells 1 (cells cI l))∨(l≠[]∧∃o,v=.sl o 0 l.length l.length false 1∧o<h.n∧gt h o=.cells l.length (cells cI l))
theorem Op.rd {h:H}{v:AV}{l:List Int}(p:Op h v l):RdI h v l:=by
 rcases p with⟨rfl,rfl⟩|⟨o,hl,rfl,_,hg⟩|⟨_,o,rfl,_,hg⟩
 ·exact RdI.nil
 ·have:=RdI.ow (w:=true) (h:=h) (o:=o) (l:=l) (by rw[hl];exact hg)
  rwa [hl] at this
 ·exact RdI.sl hg
theorem Op.keep {h h':H}{v:AV}{l:List Int}(p:Op h v l)(e:Ex h h'):Op h' v l:=by
 have:=e.n
 rcases p with p|⟨o,hl,hv,ho,hg⟩|⟨hl,o,hv,ho,hg⟩
 ·exact .inl p
 ·exact .inr (.inl ⟨o,hl,hv,by omega,by rw[e.k _ ho,hg]⟩)
 ·exact .inr (.inr ⟨hl,o,hv,by omega,by rw[e.k _ ho,hg]⟩)
def Cp (h h':H)(v:AV)(l:List Int):Prop:=Ex h h'∧((l=[]∧v=.fz .nil 0 0 fun _ _=>.any)∨(l≠[]∧∃o,v=.sl o 0 l.length l.length false 1∧h.n≤o∧o<h'.n∧gt h' o=.cells l.length (cells cI l)))
theorem c_Clone {h:H}{v:AV}{l:List Int}{K:KVH}(p:Op h v l)(hl:l.length≤1000)(k:∀v' h',Cp h h' v' l→Ho (K v' h')):Ho (((sem Tryz.prog).C 195).r [v] h K noP):=by
 refine sem_fn prOk (by kernel_rfl) ?_
 rw[t_195]
 rcases p with⟨rfl,rfl⟩|⟨o,hl1,rfl,ho,hg⟩|⟨hne,o,rfl,ho,hg⟩
 ·refine onc (And.intro @s_nlN @Bool.false_xor) ?_
  exact k _ _ ⟨Ex.refl h,.inl ⟨rfl,rfl⟩⟩
 ·have h1:Nat.beq 1 0=false:=rfl
  refine onc (And.intro @s_nlO <| And.intro h1 @Bool.false_xor) ?_
  have hg':gt (nw h (.cells 0 [])) o=.cells 1 (cells cI l):=by rw[gt_nw_ne h _ (by omega)];exact hg
  refine app_e (Src.ow hg' (by omega) (tk_self _ _ (by rw[cI_cells_len,hl1])) (by omega)) (by omega) (gt_nw h _) (by omega) (by omega) ?_
  exact k _ _ ⟨(Ex.refl h).nw.nw,.inr ⟨fun e=>(by rw[e] at hl1;cases hl1),h.n+1,by rw[hl1];rfl,Nat.le_succ _,Nat.lt_succ_self _,by rw[hl1];exact gt_nw (nw h (.cells 0 [])) _⟩⟩
 ·refine onc (And.intro @s_nlS @Bool.false_xor) ?_
  have hg':gt (nw h (.cells 0 [])) o=.cells (l.length*1) (cells cI l):=by rw[gt_nw_ne h _ (by omega),Nat.mul_one];exact hg
  have hlen:l.length≠0:=fun e=>hne (List.eq_nil_of_length_eq_zero e)
  refine app_e (Src.sl hg' (by rw[cI_cells_len,Nat.mul_one])) hlen (gt_nw h _) (by omega) (by omega) ?_
  exact k _ _ ⟨(Ex.refl h).nw.nw,.inr ⟨hne,h.n+1,rfl,Nat.le_succ _,Nat.lt_succ_self _,by rw[Nat.mul_one];exact gt_nw (nw h (.cells 0 [])) _⟩⟩
theorem Cp.app {h h1:H}{v:AV}{l:List Int}{n:Int}{K:KVH}(p:Cp h h1 v l)(hl:l.length≤1000)(k:∀v2 h2,Ex h h2→Op h2 v2 (l++[n])→Ho (K v2 h2)):Ho (Bvm.app 1 8 v (.sl h1.n 0 1 1 true 1) (nw h1 (.cells 1 [.int .i64 n])) K):=by
 obtain⟨ex,p⟩:=p
 have exn:=ex.n
 rcases p with⟨rfl,rfl⟩|⟨hne,o,rfl,ho1,ho2,hg⟩
 ·refine(Gr.nil (b:=h.n) (h:=h1) (es:=1)).app1 rfl (by omega) (by omega) exn (fun v2 h2 g hn hq=>?_)
  rcases g with⟨h0,_⟩|⟨_,o,rfl,g1,g2,g3,_⟩
  ·cases h0
  ·exact k _ _ ⟨by omega,fun q hq'=>(hq q hq').trans (ex.k q hq')⟩ (.inr (.inl ⟨o,rfl,rfl,g2,g3⟩))
 ·have hlen:l.length≠0:=fun e=>hne (List.eq_nil_of_length_eq_zero e)
  have hg':gt (nw h1 (.cells 1 [.int .i64 n])) o=.cells (l.length*1) (cells cI l):=by rw[gt_nw_ne h1 _ (by omega),Nat.mul_one];exact hg
  refine app_s (Src.lit rfl) (by omega) hg' (by rw[cI_cells_len,Nat.mul_one]) (by omega) (by omega) (by omega) ?_
  have he:cells cI l++[.int .i64 n]=cells cI (l++[n]):=by rw[cI_cells,cI_cells,List.map_append];rfl
  have hl2:(l++[n]).length=l.length+1:=by simp
  rw[he,Nat.mul_one,←hl2]
  refine k _ _ (((ex.trans (Ex.refl h1).nw).st ho1).nw) (.inr (.inr ⟨by simp,_,rfl,Nat.lt_succ_self _,?_⟩))
  exact gt_nw (kill (nw h1 (.cells 1 [.int .i64 n])) o) _
end
end Go.Proofs.YtgmjpmeddajmgaaGreat
namespace Go.Proofs.YtgmjpmeddajmgaaGreat
open Go Go.Avm Go.Bvm
set_option maxRecDepth 100000
set_option linter.unusedVariables false
set_option linter.unusedSimpArgs false
set_option linter.defProp false
noncomputable section
attribute [local irreducible] jn jv br lp ck iff wB wG wRef wSl wCl wAg wTu wStr wFn wIfc wInt wCe wRe wMp wFr ad sb ml lt le eqi nei eq1 isNil un cvt fa len lens ix ixA ixS ixV ld1 ldn sto al bx pt bs ms app cpy sli lkm mup men mst mrg srg snx mnx mtr tas lenm rgT rgE finR mfind mset mput wKey wMa sV sem fin Ho
theorem t_175 (t:Tb)(h:H)(K Pn:KVH)(x0 x1 x2:AV):(compF Tryz.prog (drawsC Tryz.prog) 175).r t [x0,x1,x2] h K Pn=ck true (bx x0 h fun v h=>fa 0 v fun v_1=>ld1 h v_1 fun v_2=>eqi v_2 (mkI 1) fun v_3=>jn (fun l h=>e10 l fun x x_1 x_2 x_3 x_4 x_5 x_6 x_7 x_8 x_9=>fa 2 x_7 fun v=>ld1 h v fun v=>len v fun v_4=>jn (fun l h=>K (AV.bool true) h) fun k=>lp (fun L l h=>eS l fun x l=>e12 l fun x x_10 x_11 x_12 x_13 x_14 x_15 x_16 x_17 x_18 x_19 x_20=>lt x_11 x_12 fun v=>jn (fun l h=>e8 l fun x x_21 x_22 x_23 x_24 x_25 x_26 x_27=>jn (fun l h=>eS l fun x l=>e12 l fun x_28 x_29 x_30 x_31 x_32 x_33 x_34 x_35 x_36 x_37 x_38 x_39=>ad x_30 (mkI 1) fun v=>L [x,x_28,x_29,v,x_31,x_32,x_33,x_34,x_35,x_36,x_37,x_38,x_39] h) fun k=>ix 3 x_23 x_21 fun v=>ldn 3 h v fun v=>al 3 [mkI 0,mkI 0,AV.fz Fz.nil 0 0 fun _ _=>AV.any] h fun v_5 h=>sto 3 h v_5 v fun h=>fa 0 x_25 fun v=>ld1 h v fun v=>eqi v (mkI 8) fun v=>jv (fun v_6 h=>jv (fun v_7 h=>jv (fun v h=>jn (fun l h=>e12 l fun x x_28 x_29 x_30 x_31 x_32 x_33 x_34 x_35 x_36 x_37 x_38=>ldn 3 h x_33 fun v=>(t.C 175).r [v,x_38,x_32] h (fun v h=>un v fun v=>jn k fun k=>wB v (K (AV.bool false) h) (k [v,x,x_28,x_29,x_30,x_31,x_32,x_33,x_34,x_35,x_36,x_37,x_38] h)) Pn) fun k=>wB v (fa 1 x_25 fun v_8=>ld1 h v_8 fun v_9=>pt 0 1 v_9 [mkI 0] fun cs=>bs 1 1 1 cs h fun x_28 x_29=>(t.C 195).r [x_26] h (fun v_10 h=>ld1 h v_8 fun v_11=>sV v_9 v_11 (pt 0 1 v_9 [mkI 0] fun cs=>bs 1 1 1 cs h fun v_12 h=>app 1 8 v_10 v_12 h fun v_13 h=>k [v,x,x_21,x_22,x_23,v_13,v_5,x_21,x_24,x_25,x_26,x_27] h)) Pn) (k [v,x,x_21,x_22,x_23,x_26,v_5,x_21,x_24,x_25,x_26,x_27] h)) fun k=>wB v (k v_7 h) (k (AV.bool false) h)) fun k=>wG true v (eqi v_6 (mkI 1) fun v=>k v h) (k skipV h)) fun k=>wG true v (k x_21 h) (k skipV h)) fun k_1=>wB v (k_1 [v,x_11,x_12,x_13,x_17,x_18,x_19,x_20] h) (k [] h)) [x,x_1,x_2,mkI 0,v_4,v,x_3,x_4,x_5,x_6,x_7,x_8,x_9] h) fun k=>wB v_3 (fa 1 v fun v_4=>ld1 h v_4 fun v_5=>lkm 3 (keyC Tryz.prog 3) (mkI 0) false x1 v_5 h fun v_6=>eqi v_6 (mkI 0) fun v_7=>jv (fun v_8 h=>jv (fun v h=>jv (fun v h=>jv (fun v h=>jv K fun k=>wB v_7 (k (AV.bool true) h) (k v h)) fun k=>wG false v_7 ((t.C 205).r [v_8,v] h k Pn) (k skipV h)) fun k=>wG false v_7 (ld1 h v fun v=>k v h) (k skipV h)) fun k=>wG false v_7 (fa 1 v fun v=>k v h) (k skipV h)) fun k=>wG false v_7 (k x2 h) (k skipV h)) (k [AV.any,AV.any,AV.any,AV.any,AV.any,AV.any,AV.bool false,v,x2,x1] h)):=by kernel_rfl
mutual
def scopeB (f:Int→Int):Tm→List Int→Bool
 |.mk o n _ l,op=>if o=1 then(decide (f n=0)||decide (n∈op)) else scopeL f (decide (o=8)) n l 0 op
def scopeL (f:Int→Int)(b:Bool)(n:Int):List Tm→Nat→List Int→Bool
 |[],_,_=>true
 |t::r,i,op=>scopeB f t (if b=true∧i=1 then op++[n] else op)&&scopeL f b n r (i+1) op
end
theorem scopeB_eq (f:Int→Int)(t:Tm)(op:List Int):scopeB f t op=if t.op=1 then(decide (f t.n=0)||decide (t.n∈op)) else scopeL f (decide (t.op=8)) t.n t.kids 0 op:=by cases t;rw[scopeB];rfl
theorem scopeL_cons (f:Int→Int)(b:Bool)(n:Int)(t:Tm)(r:List Tm)(i:Nat)(op:List Int):scopeL f b n (t::r) i op=(scopeB f t (if b=true∧i=1 then op++[n] else op)&&scopeL f b n r (i+1) op):=by rw[scopeL]
theorem scopeL_nil (f:Int→Int)(b:Bool)(n:Int)(i:Nat)(op:List Int):scopeL f b n [] i op=true:=by rw[scopeL]
theorem c_scoped {s:Cn}(hok:cOk s)(m:Nat)(t:Tm):∀(B:Int) (op:List Int) (v:AV) (h:H) (K:KVH),FewB B t→op.length+B≤1000→(∀x,x∈po t→x.op=1 → -1000000≤x.n∧x.n≤1000000)→Op h v op→m<h.n→gt h m=cMap s→(∀h',Ex h h'→Ho (K (.bool (scopeB s.2 t op)) h'))→Ho (((sem Tryz.prog).C 175).r [eT t,.mp m,v] h K noP):=by
 induction t using Tm.rec' with
 |h t ih=>
 intro B op v h K hw hB hD hop hm hg hK
 obtain⟨hB1,hkl,hk⟩:=hw.kids
 rw[scopeB_eq] at hK
 rw[po_eq] at hD
 refine sem_fn prOk (by kernel_rfl) ?_
 rw[t_175]
 have e1:Ex h (nw h (.cells 3 (cT t))):=(Ex.refl h).nw
 by_cases c:t.op=1
 ·rw[if_pos c] at hK
  obtain⟨hn1,hn2⟩:=hD t List.mem_cons_self c
  have hk:=keyI_ok hn1 hn2
  unfold cMap at hg
  refine onc (And.intro c <| And.intro hk <| And.intro hg <| And.intro @s_wMa <| And.intro @s_wKI <| And.intro @s_lkm1 <| And.intro @s_mfI sT) (ho_br (fun c2=>?_) (fun c2=>?_))
  ·have e2:cV s.2 t.n=.int .i64 (s.2 t.n):=rfl
   refine onc (And.intro e2 sT) (ho_br (fun c3=>?_) (fun c3=>?_))
   ·refine onc c3 ?_
    have:=hK _ e1
    rwa [decide_eq_true c3,Bool.true_or] at this
   ·refine onc (And.intro c3 sT) ?_
    refine c_Contains (hop.keep e1).rd (by omega) ?_
    refine onc c3 ?_
    have:=hK _ e1
    rwa [decide_eq_false c3,Bool.false_or] at this
  ·refine on ?_
   have:=hK _ e1
   rwa [decide_eq_true (hok.2 _ c2),Bool.true_or] at this
 ·rw[if_neg c] at hK
  refine onc (And.intro c sT) ?_
  refine ho_lp (fun (i:Nat) x h'=>(∃a b c d e f,x=[a,b,c,.int .i64 i,.int .i64 t.kids.length,eTs t.k t.kids,d,e,f,.bool false,.ref h.n 0,v,.mp m])∧i≤t.kids.length∧Ex (nw h (.cells 3 (cT t))) h'∧scopeL s.2 (decide (t.op=8)) t.n t.kids 0 op=scopeL s.2 (decide (t.op=8)) t.n (t.kids.drop i) i op) (fun i=>t.kids.length-i) 0 ⟨⟨_,_,_,_,_,_,rfl⟩,Nat.zero_le _,Ex.refl _,rfl⟩ (by omega) ?_
  rintro i x h' L ⟨⟨a,b,c',d,e,f,rfl⟩,hi,hex,he⟩ ih'
  have ex0:=e1.trans hex
  have hexn:=hex.n
  have hexn:h.n+1≤h'.n:=hexn
  have gt0:gt h' h.n=.cells 3 (cT t):=by rw[hex.k _ (Nat.lt_succ_self _)];exact gt_nw h _
  refine on (ho_br (fun c1=>?_) (fun c1=>?_))
  ·have hmem:t.kids.getD i default∈t.kids:=getD_mem (by omega)
   rw[drop_cons (l:=t.kids) (i:=i) (by omega),scopeL_cons] at he
   have e2:Ex h' (st (nw h' (.cells 3 [.int .i64 0,.int .i64 0,.fz .nil 0 0 fun _ _=>.any])) h'.n (.cells 3 (cT (t.kids.getD i default)))):=(Ex.refl h').nw.st (Nat.le_refl _)
   have step:∀(h3:H),Ex h' h3→gt h3 h'.n=.cells 3 (cT (t.kids.getD i default))→∀(v3:AV) (op3:List Int),op3=(if (decide (t.op=8))=true∧i=1 then op++[t.n] else op)→Op h3 v3 op3→op3.length≤op.length+1→∀(K3:KVH),(∀h4,Ex h' h4→scopeB s.2 (t.kids.getD i default) op3=true→Ho (K3 (.bool true) h4))→(∀h4,Ex h' h4→scopeB s.2 (t.kids.getD i default) op3=false→Ho (K3 (.bool false) h4))→Ho (((sem Tryz.prog).C 175).r [eT (t.kids.getD i default),.mp m,v3] h3 K3 noP):=fun h3 ex3 hg3 v3 op3 ho3 hop3 hl3 K3 h1 h2=>by
    have n3:=ex3.n
    refine ih _ hmem (B-1) op3 v3 h3 K3 (hk _ hmem) (by omega) (fun x hx=>hD x (List.mem_cons_of_mem _ (List.mem_flatMap.2 ⟨_,hmem,hx⟩))) hop3 (by omega) (by rw[(ex0.trans ex3).k _ hm];exact hg) (fun h4 ex4=>?_)
    cases hb:scopeB s.2 (t.kids.getD i default) op3 with
    |true=>exact h1 h4 (ex3.trans ex4) hb
    |false=>exact h2 h4 (ex3.trans ex4) hb
   by_cases c8:t.op=8
   ·refine onc (And.intro c8 <| And.intro gt0 <| And.intro @cT_spl sT) (ho_br (fun c2=>?_) (fun c2=>?_))
    ·have:i=1:=by omega
     subst this
     have hcc:decide (t.op=8)=true∧1=1:=⟨decide_eq_true c8,rfl⟩
     refine onc (And.intro c8 <| And.intro c2 <| And.intro gt0 <| And.intro @cT_spl sT) ?_
     refine c_Clone (hop.keep (ex0.trans e2)) (by omega) (fun v3 h3 hcp=>?_)
     have ex3:=e2.trans hcp.1
     have n3:=ex3.n
     have n2:=hcp.1.n
     have gt3:gt h3 h.n=.cells 3 (cT t):=by rw[ex3.k _ (by omega),gt0]
     refine onc (And.intro gt3 sT) ?_
     rw[Sv.int]
     refine hcp.app (by omega) (fun v5 h5 ex5 hop5=>?_)
     have ex6:=e2.trans ex5
     have gt5:gt h5 h'.n=.cells 3 (cT (t.kids.getD 1 default)):=by rw[ex5.k _ (Nat.lt_succ_self _)];exact gt_st _ _ _
     refine onc (And.intro gt5 sT) ?_
     refine step h5 ex6 gt5 v5 _ rfl (by rw[if_pos hcc];exact hop5) (by rw[if_pos hcc];simp) _ (fun h4 ex4 hb=>?_) (fun h4 ex4 hb=>?_)
     ·rw[hb,Bool.true_and] at he
      refine on ?_
      exact ih' (1+1) _ _ ⟨⟨_,_,_,_,_,_,rfl⟩,by omega,hex.trans ex4,he⟩ (by omega)
     ·rw[hb,Bool.false_and] at he
      have:=hK h4 (ex0.trans ex4)
      rw[he] at this
      refine on ?_
      exact this
    ·have hcc:¬(decide (t.op=8)=true∧i=1):=fun h=>c2 (by omega)
     refine onc (And.intro c8 <| And.intro c2 <| And.intro gt0 <| And.intro @cT_spl sT) ?_
     refine step _ e2 (gt_st _ _ _) v _ rfl (by rw[if_neg hcc];exact hop.keep (ex0.trans e2)) (by rw[if_neg hcc];omega) _ (fun h4 ex4 hb=>?_) (fun h4 ex4 hb=>?_)
     ·rw[hb,Bool.true_and] at he
      refine on ?_
      exact ih' (i+1) _ _ ⟨⟨_,_,_,_,_,_,rfl⟩,by omega,hex.trans ex4,he⟩ (by omega)
     ·rw[hb,Bool.false_and] at he
      have:=hK h4 (ex0.trans ex4)
      rw[he] at this
      refine on ?_
      exact this
   ·have hcc:¬(decide (t.op=8)=true∧i=1):=fun h=>c8 (of_decide_eq_true h.1)
    refine onc (And.intro c8 <| And.intro gt0 <| And.intro @cT_spl sT) ?_
    refine step _ e2 (gt_st _ _ _) v _ rfl (by rw[if_neg hcc];exact hop.keep (ex0.trans e2)) (by rw[if_neg hcc];omega) _ (fun h4 ex4 hb=>?_) (fun h4 ex4 hb=>?_)
    ·rw[hb,Bool.true_and] at he
     refine on ?_
     exact ih' (i+1) _ _ ⟨⟨_,_,_,_,_,_,rfl⟩,by omega,hex.trans ex4,he⟩ (by omega)
    ·rw[hb,Bool.false_and] at he
     have:=hK h4 (ex0.trans ex4)
     rw[he] at this
     refine on ?_
     exact this
  ·rw[List.drop_eq_nil_of_le (by omega),scopeL_nil] at he
   refine on ?_
   have:=hK _ ex0
   rwa [he] at this
end
end Go.Proofs.YtgmjpmeddajmgaaGreat
namespace Go.Proofs.YtgmjpmeddajmgaaGreat
open Go Go.Avm Go.Bvm
set_option maxRecDepth 100000
set_option linter.unusedVariables false
set_option linter.unusedSimpArgs false
set_option linter.defProp false
noncomputable section
attribute [local irreducible] jn jv br lp ck iff wB wG wRef wSl wCl wAg wTu wStr wFn wIfc wInt wCe wRe wMp wFr ad sb ml lt le eqi nei eq1 isNil un cvt fa len lens ix ixA ixS ixV ld1 ldn sto al bx pt bs ms app cpy sli lkm mup men mst mrg srg snx mnx mtr tas lenm rgT rgE finR mfind mset mput wKey wMa sV sem fin Ho
theorem t_126 (t:Tb)(h:H)(K Pn:KVH)(x0 x1:AV):(compF Tryz.prog (drawsC Tryz.prog) 126).r t [x0,x1] h K Pn=ck true (bx x0 h fun v h=>bx x1 h fun v_1 h=>fa 0 v_1 fun v_2=>ld1 h v_2 fun v_3=>lt v_3 (mkI 0) fun v_4=>jv (fun v_5 h=>jv (fun v_6 h=>jv (fun v_7 h=>jv (fun v_8 h=>jv (fun v_9 h=>jv (fun v_10 h=>jv (fun v_11 h=>jv (fun v_12 h=>jv (fun v_13 h=>jv (fun v_14 h=>jv (fun v_15 h=>jv (fun v_16 h=>jv (fun v_17 h=>jv (fun v_18 h=>jv (fun v_19 h=>jv (fun v_20 h=>jv (fun v_21 h=>jv (fun v_22 h=>jv (fun v_23 h=>jv (fun v_24 h=>jv (fun v_25 h=>jv (fun v_26 h=>jv (fun v_27 h=>jv (fun v_28 h=>jv (fun v_29 h=>jv (fun v_30 h=>jv (fun v_31 h=>jv (fun v_32 h=>jv (fun v_33 h=>jv (fun v_34 h=>jv (fun v_35 h=>jv (fun v_36 h=>jv (fun v_37 h=>jv (fun v_38 h=>jv (fun v_39 h=>jv (fun v h=>jv (fun v h=>jv (fun v h=>jv (fun v h=>jn (fun l h=>eS l fun x l=>e12 l fun x_1 x_2 x_3 x_4 x_5 x_6 x_7 x_8 x_9 x_10 x_11 x_12=>fa 2 x_12 fun v=>ldn 3 h v fun v_40=>fa 1 x_12 fun v_41=>ld1 h v_41 fun v_42=>(t.C 97).r [v_42] h (fun v_43 h=>ldn 3 h v fun v=>sV v_40 v ((t.C 98).r [v_40] h (fun v h=>mrg v_43 h fun v_44 h=>jn (fun l h=>e11 l fun x x_13 x_14 x_15 x_16 x_17 x_18 x_19 x_20 x_21 x_22=>fa 2 x_22 fun v=>ldn 3 h v fun v=>pt 0 3 v [mkI 0,mkI 0,AV.fz Fz.nil 0 0 fun _ _=>AV.any] fun cs=>bs 1 3 3 cs h fun v h=>(t.C 97).r [v] h (fun v h=>mrg v h fun v h=>jn (fun l h=>e8 l fun x x_23 x_24 x_25 x_26 x_27 x_28 x_29=>mrg x_26 h fun v h=>jn (fun l h=>e2 l fun x x_30=>fa 2 x_30 fun v=>ldn 3 h v fun v=>(t.C 175).r [v,x,AV.fz Fz.nil 0 0 fun _ _=>AV.any] h (fun v h=>K v h) Pn) fun k=>lp (fun L l h=>e9 l fun x x_30 x_31 x_32 x_33 x_34 x_35 x_36 x_37=>mnx x_31 h fun v h=>wTu v fun n g=>ck (Nat.ble 1 n) (jn (fun l h=>e6 l fun x x_38 x_39 x_40 x_41 x_42=>jn L fun k=>mtr x_38 h fun v=>wTu v fun n g=>ck (Nat.ble 1 n) (wTu v fun n g_1=>ck (Nat.ble 2 n) (lt (mkI 1) (g_1 1) fun v=>jv (fun v_45 h=>jv (fun v_46 h=>jv (fun v_47 h=>jv (fun v_48 h=>jv (fun v h=>jv (fun v_49 h=>jv (fun v_50 h=>jv (fun v_51 h=>jv (fun v_52 h=>jv (fun v h=>jn k fun k=>wB v (K (AV.bool false) h) (k [v,x,x_38,g_1 1,g 0,x_39,x_40,x_41,x_42] h)) fun k=>wB v (k (AV.bool true) h) (k v_52 h)) fun k=>wG false v (lt (mkI 0) v_51 fun v=>k v h) (k skipV h)) fun k=>wG false v (lkm 3 (keyC Tryz.prog 3) (mkI 0) false v_49 v_50 h fun v=>k v h) (k skipV h)) fun k=>wG false v (k (g 0) h) (k skipV h)) fun k=>wG false v (k x_40 h) (k skipV h)) fun k=>wB v (k (AV.bool true) h) (k v_48 h)) fun k=>wG false v (le v_47 v_45 fun v=>k v h) (k skipV h)) fun k=>wG false v (ld1 h v_46 fun v=>k v h) (k skipV h)) fun k=>wG false v (fa 5 x_42 fun v=>k v h) (k skipV h)) fun k=>wG false v (k (g 0) h) (k skipV h)))) fun k_1=>wB (g 0) (k_1 [g 0,x_31,x_34,x_35,x_36,x_37] h) (k [x_34,x_37] h))) [x,x_23,v,x_24,x_25,x_26,x_27,x_28,x_29] h) fun k=>lp (fun L l h=>e12 l fun x x_23 x_24 x_25 x_26 x_27 x_28 x_29 x_30 x_31 x_32 x_33=>mnx x_26 h fun v h=>wTu v fun n g=>ck (Nat.ble 1 n) (jn (fun l h=>e10 l fun x x_34 x_35 x_36 x_37 x_38 x_39 x_40 x_41 x_42=>jn L fun k=>mtr x_36 h fun v=>wTu v fun n g=>ck (Nat.ble 1 n) (fa 5 x_42 fun v=>ld1 h v fun v=>le v (g 0) fun v=>jn k fun k=>wB v (K (AV.bool false) h) (k [x,x_34,v,x_35,x_36,x_37,x_38,g 0,x_39,x_40,x_41,x_42] h))) fun k_1=>wB (g 0) (k_1 [x,x_23,g 0,x_26,x_27,x_28,x_30,x_31,x_32,x_33] h) (k [x,x_23,x_27,x_28,x_30,x_31,x_32,x_33] h))) [x,x_13,x_14,x_15,v,x_16,x_17,x_18,x_19,x_20,x_21,x_22] h) Pn) fun k=>lp (fun L l h=>eS l fun x l=>eS l fun x_13 l=>eS l fun x_14 l=>eS l fun x_15 l=>e12 l fun x_16 x_17 x_18 x_19 x_20 x_21 x_22 x_23 x_24 x_25 x_26 x_27=>mnx x_18 h fun v h=>wTu v fun n g=>ck (Nat.ble 1 n) (jn (fun l h=>eS l fun x l=>e12 l fun x_28 x_29 x_30 x_31 x_32 x_33 x_34 x_35 x_36 x_37 x_38 x_39=>jn L fun k=>mtr x_32 h fun v=>wTu v fun n g=>ck (Nat.ble 1 n) (wTu v fun n g_1=>ck (Nat.ble 2 n) (lt (mkI 1) (g_1 1) fun v=>jv (fun v_45 h=>jv (fun v_46 h=>jv (fun v_47 h=>jv (fun v_48 h=>jv (fun v h=>jn k fun k=>wB v (K (AV.bool false) h) (k [x,x_28,x_29,x_30,v,x_31,x_32,x_33,x_34,x_35,g_1 1,g 0,x_36,x_37,x_38,x_39] h)) fun k=>wB v (k (AV.bool true) h) (k v_48 h)) fun k=>wG false v (le v_47 v_45 fun v=>k v h) (k skipV h)) fun k=>wG false v (ld1 h v_46 fun v=>k v h) (k skipV h)) fun k=>wG false v (fa 5 x_39 fun v=>k v h) (k skipV h)) fun k=>wG false v (k (g 0) h) (k skipV h)))) fun k_1=>wB (g 0) (k_1 [x,x_13,x_14,x_15,g 0,x_18,x_19,x_20,x_21,x_24,x_25,x_26,x_27] h) (k [x,x_13,x_14,x_15,x_19,x_20,x_21,x_24,x_25,x_26,x_27] h))) [x,x_1,x_2,x_3,x_4,x_5,v_44,x_6,x_7,x_8,x_9,x_10,v,v_43,x_11,x_12] h) Pn)) Pn) fun k=>wB v (K (AV.bool false) h) (k [AV.any,AV.any,AV.any,AV.any,AV.any,AV.any,AV.any,AV.any,AV.any,AV.any,AV.any,AV.bool false,v_1] h)) fun k=>wB v_37 (k (AV.bool true) h) (k v h)) fun k=>wG false v_37 (nei v (mkI 0) fun v=>k v h) (k skipV h)) fun k=>wG false v_37 ((t.C 86).r [v,v_39] h k Pn) (k skipV h)) fun k=>wG false v_37 (ldn 2 h v fun v=>k v h) (k skipV h)) fun k=>wG false v_37 (ldn 3 h v_38 fun v=>k v h) (k skipV h)) fun k=>wG false v_37 (fa 2 v_1 fun v=>k v h) (k skipV h)) fun k=>wB v_31 (k (AV.bool true) h) (k v_36 h)) fun k=>wG false v_31 (un v_35 fun v=>k v h) (k skipV h)) fun k=>wG false v_31 ((t.C 84).r [v_34,v_32] h k Pn) (k skipV h)) fun k=>wG false v_31 (ld1 h v_33 fun v=>k v h) (k skipV h)) fun k=>wG false v_31 (fa 1 v_1 fun v=>k v h) (k skipV h)) fun k=>wG false v_31 (k (AV.fn 173 0 (nx []) 1 (nx [v])) h) (k skipV h)) fun k=>wB v_27 (k (AV.bool true) h) (k v_30 h)) fun k=>wG false v_27 (lt (mkI 20) v_29 fun v=>k v h) (k skipV h)) fun k=>wG false v_27 (ld1 h v_28 fun v=>k v h) (k skipV h)) fun k=>wG false v_27 (fa 5 v_1 fun v=>k v h) (k skipV h)) fun k=>wB v_23 (k (AV.bool true) h) (k v_26 h)) fun k=>wG false v_23 (lt v_25 (mkI 0) fun v=>k v h) (k skipV h)) fun k=>wG false v_23 (ld1 h v_24 fun v=>k v h) (k skipV h)) fun k=>wG false v_23 (fa 5 v_1 fun v=>k v h) (k skipV h)) fun k=>wB v_11 (k (AV.bool true) h) (k v_22 h)) fun k=>wG false v_11 (nei v_21 v_18 fun v=>k v h) (k skipV h)) fun k=>wG false v_11 (len v_20 fun v=>k v h) (k skipV h)) fun k=>wG false v_11 (ld1 h v_19 fun v=>k v h) (k skipV h)) fun k=>wG false v_11 (fa 1 v_1 fun v=>k v h) (k skipV h)) fun k=>wG false v_11 (ld1 h v_17 fun v=>k v h) (k skipV h)) fun k=>wG false v_11 (fa 1 v_16 fun v=>k v h) (k skipV h)) fun k=>wG false v_11 (ix 2 v_15 v_13 fun v=>k v h) (k skipV h)) fun k=>wG false v_11 (ld1 h v_14 fun v=>k v h) (k skipV h)) fun k=>wG false v_11 (fa 1 v fun v=>k v h) (k skipV h)) fun k=>wG false v_11 (ld1 h v_12 fun v=>k v h) (k skipV h)) fun k=>wG false v_11 (fa 0 v_1 fun v=>k v h) (k skipV h)) fun k=>wB v_4 (k (AV.bool true) h) (k v_10 h)) fun k=>wG false v_4 (le v_7 v_9 fun v=>k v h) (k skipV h)) fun k=>wG false v_4 (ld1 h v_8 fun v=>k v h) (k skipV h)) fun k=>wG false v_4 (fa 0 v_1 fun v=>k v h) (k skipV h)) fun k=>wG false v_4 (len v_6 fun v=>k v h) (k skipV h)) fun k=>wG false v_4 (ld1 h v_5 fun v=>k v h) (k skipV h)) fun k=>wG false v_4 (fa 1 v fun v=>k v h) (k skipV h)):=by kernel_rfl
theorem cT_Sv (t:Tm):∀j,j<3→Sv (nx (cT t) j):=by
 induction t using Tm.rec' with
 |h t ih=>
  refine lt3 ?_ ?_ ?_
  ·rw[cT0];exact Sv.int _ _
  ·rw[cT1];exact Sv.int _ _
  ·rw[cT2];exact Sv.fzM ih
theorem rhs_Sv (r:Rl):Sv (.agg 3 (nx (dr 2 (cR r)))):=Sv.agg fun i hi=>match i,hi with
 |0,_=>Sv.int _ _
 |1,_=>Sv.int _ _
 |2,_=>Sv.fzM fun t _=>cT_Sv t
theorem rhs_le (r:Rl):Le (.agg 3 (nx (dr 2 (cR r)))) (eT r.rhs):=Le.agg (lt3 (by rw[cT0];exact Le.refl _) (by rw[cT1];exact Le.refl _) (by rw[cT2];exact Le.refl _))
theorem c_pattern (s:Sg)(r:Rl)(hs:smallSg s)(hok:sigOk s):FnOk (.fn 173 0 (nx []) 1 (nx [.ref 0 0])) 1 (fun t=>[eT t]) (fun _ (_:Unit) h=>1<h.n∧gt h 0=.cells 2 (cS s)∧gt h 1=.cells 6 (cR r)) (fun _ t=>((),decide (termOk s t∧patOk t))) Few:=by
 rintro _ t h K hf ⟨hn,g0,g1⟩ hK
 refine ho_cl ?_
 show Ho (((sem Tryz.prog).C 173).r [eT t,.ref 0 0] h K noP)
 refine sem_fn prOk (by kernel_rfl) ?_
 rw[t_173]
 refine onc (And.intro g0 sP) ?_
 refine(c_IsPattern s t hs hf).call ?_
 have fin:Ho (K (.bool (decide (termOk s t∧patOk t))) (nw h (.cells 3 (cT t)))):=hK (nw h (.cells 3 (cT t))) (Ex.refl h).nw.kp ⟨Nat.lt_succ_of_lt hn,by rw[gt_nw_ne h _ (by omega)];exact g0,by rw[gt_nw_ne h _ (by omega)];exact g1⟩
 unfold okI
 by_cases c1:termOk s t
 ·rw[if_pos ⟨hok,c1⟩]
  by_cases c2:patOk t
  ·rw[decide_eq_true (⟨hok,c1,c2⟩:sigOk s∧termOk s t∧patOk t)]
   refine on ?_
   rwa [decide_eq_true (⟨c1,c2⟩:termOk s t∧patOk t)] at fin
  ·rw[decide_eq_false (fun e=>c2 e.2.2:¬(sigOk s∧termOk s t∧patOk t))]
   refine on ?_
   rwa [decide_eq_false (fun e=>c2 e.2:¬(termOk s t∧patOk t))] at fin
 ·rw[if_neg (fun e=>c1 e.2),decide_eq_false (fun e=>c1 e.2.1:¬(sigOk s∧termOk s t∧patOk t))]
  refine on ?_
  rwa [decide_eq_false (fun e=>c1 e.1:¬(termOk s t∧patOk t))] at fin
theorem termOk.pv {s:Sg}{t:Tm}(h:termOk s t){x:Tm}(hx:x∈po t)(hop:x.op=1):0≤x.n∧x.n≤19:=by
 obtain⟨y,hy,rfl⟩:=List.mem_map.1 hx
 exact h.var hy hop
theorem termOk.lv {s:Sg}{t:Tm}(h:termOk s t){x:Tm}(hx:x∈po t)(hop:x.op=8):0≤x.n∧x.n≤19:=by
 obtain⟨y,hy,rfl⟩:=List.mem_map.1 hx
 have:=(nodesB_pre s t 1).1 h.f2 y hy
 unfold nodeB at this
 rw[if_neg (by omega),if_neg (by omega),if_neg (by omega),if_neg (by omega),if_neg (by omega),if_pos hop] at this
 exact(of_decide_eq_true this).2
theorem nats_len (n:Nat):(nats n).length=n:=by
 have key:∀(n a:Nat),(Nat.rec (motive:=fun _=>Nat→List Nat) (fun _=>[]) (fun _ ih i=>i::ih (Nat.succ i)) n a:List Nat).length=n:=by
  intro n
  induction n with
  |zero=>intro a;rfl
  |succ n ih=>intro a;show(a::_:List Nat).length=_;rw[List.length_cons,ih]
 exact key n 0
theorem fz_T11 {h:H}{o:Nat}{t:Tm}(hg:gt h o=.cells 3 (cT t)):frzH (objL (objF h 40) [.sl o 0 1 1 true 3]) h=st h o (.fce 3 (cT t)):=by
 have h1:objF h 40 (.sl o 0 1 1 true 3)=[o]:=by
  show o::objL (objF h 39) (cellsOf (gt h o))=_
  rw[hg]
  show o::objL (objF h 39) (tk 3 (cT t))=_
  rw[tk_self _ _ (cT_len t),cT_eq];rfl
 have h2:objL (objF h 40) [.sl o 0 1 1 true 3]=[o]:=by
  show objF h 40 (.sl o 0 1 1 true 3)++[]=_
  rw[h1];rfl
 rw[h2]
 show frz1 h o=_
 unfold frz1
 rw[hg]
theorem _root_.Go.Bvm.LeL.same2 {a b:AV}:LeL [a,b] [a,b]:=LeL.same (LeL.same LeL.nil)
structure ruleP (s:Sg)(r:Rl):Prop where
 f1:0≤r.fn
 f2:r.fn<s.funs.length
 f3:(r.pats.length:Int)=(s.funs.getD r.fn.toNat default).args
 f4:0≤r.vars
 f5:r.vars≤20
 f6:∀t,t∈r.pats→termOk s t∧patOk t
 f7:termOk s r.rhs
 f8:∀n,n∈occ 1 (r.pats.flatMap po)→(occ 1 (r.pats.flatMap po)).count n≤1∧n<r.vars
 f9:∀n,n∈occ 1 (po r.rhs)→n<r.vars
 fa:∀n,n∈occ 8 (po r.rhs)→(occ 8 (po r.rhs)).count n≤1∧n<r.vars∧(occ 1 (r.pats.flatMap po)).count n=0
 fb:scopeB (fun n=>((occ 8 (po r.rhs)).count n:Int)) r.rhs []=true
instance (s:Sg)(r:Rl):Decidable (ruleP s r):=Classical.propDecidable _
theorem eR_below (r:Rl):Below 0 (eR r):=allN_iff.2 fun j hj=>match j,hj with
 |0,_=>trivial
 |1,_=>trivial
 |2,_=>trivial
 |3,_=>trivial
 |4,_=>trivial
 |5,_=>trivial
set_option maxHeartbeats 8000000 in
theorem c_ruleP (s:Sg)(r:Rl)(hs:smallSg s)(hok:sigOk s)(hr:smallR r):Pu Tryz.prog 126 [eS' s,eR r] (.bool (decide (ruleP s r))):=by
 refine Pu.of prOk (by kernel_rfl) ⟨eS_below _,eR_below _,trivial⟩ ?_
 have hs1:=hs.f1
 have hs2:=hs.f2
 have hp:=hr.f1
 have hpl:=hp.f1
 have hpf:∀t,t∈r.pats→Few t:=fun t ht=>(hp.f2 t ht).few
 have hrf:Few r.rhs:=hr.f2.few
 have no:¬ruleP s r→∀h,Ho (fin Tryz.prog (.bool (decide (ruleP s r))) (.bool false) h):=fun hn h=>fin_b (decide_eq_false hn).symm
 rw[t_126]
 refine onc sP (ho_br (fun c1=>?_) (fun c1=>?_))
 ·refine onc c1 ?_
  exact no (fun e=>by have:=e.f1;omega) _
 refine onc (And.intro c1 sP) (ho_br (fun c2=>?_) (fun c2=>?_))
 ·refine onc c2 ?_
  exact no (fun e=>by have:=e.f2;omega) _
 refine onc (And.intro c2 <| And.intro c1 sP) (ho_br (fun c3=>?_) (fun c3=>?_))
 ·refine onc c3 ?_
  exact no (fun e=>c3 e.f3) _
 refine onc (And.intro c3 <| And.intro c2 <| And.intro c1 sP) (ho_br (fun c4=>?_) (fun c4=>?_))
 ·refine onc c4 ?_
  exact no (fun e=>by have:=e.f4;omega) _
 refine onc (And.intro c4 <| And.intro c3 sP) (ho_br (fun c5=>?_) (fun c5=>?_))
 ·refine onc c5 ?_
  exact no (fun e=>by have:=e.f5;omega) _
 refine onc (And.intro c5 <| And.intro c4 sP) ?_
 refine c_allT (c_pattern s r hs hok) ?_ (fun F=>s_clfn) r.pk r.pats (by omega) hpf () _ (by show 1<2;omega) ⟨by show 1<2;omega,?_,?_⟩ (fun h3 hk3 hI3=>?_)
 ·rintro _ _ h h' e ⟨h1,h2,h3⟩
  have:=e.n
  exact⟨by omega,by rw[e.k _ (by omega),h2],by rw[e.k _ h1,h3]⟩
 ·simp(disch:=omega) only [sG]
 ·simp(disch:=omega) only [sG]
 obtain⟨n3,g0,g1⟩:=hI3
 rw[runL_all]
 cases ha:r.pats.all (fun t=>decide (termOk s t∧patOk t)) with
 |false=>
  refine onc (And.intro g0 <| And.intro g1 sP) ?_
  refine no (fun e=>?_) _
  rw[List.all_eq_true.2 fun t ht=>decide_eq_true (e.f6 t ht)] at ha
  cases ha
 |true=>
 have ha:∀t,t∈r.pats→termOk s t∧patOk t:=fun t ht=>of_decide_eq_true (List.all_eq_true.1 ha t ht)
 refine onc (And.intro g0 <| And.intro g1 sP) ?_
 refine(c_Check s r.rhs hs hrf).le (LeL.same (LeL.cons (rhs_le r) LeL.nil)) ?_
 unfold okI
 by_cases c7:termOk s r.rhs
 case neg=>
  rw[if_neg (fun e=>c7 e.2)]
  refine onc sP ?_
  exact no (fun e=>c7 e.f7) _
 rw[if_pos ⟨hok,c7⟩]
 refine onc (And.intro g0 <| And.intro g1 sP) ?_
 have ha':=ha
 have hpv:∀t,t∈r.pats→∀x,x∈po t→x.op=1 → -1000000≤x.n∧x.n≤1000000:=fun t ht x hx h1=>by have:=(ha t ht).1.pv hx h1;omega
 have hl1:=pos_len hpf
 have hl2:=po_len hrf
 have hsing:[r.rhs].flatMap po=po r.rhs:=by simp
 obtain⟨k1,v1,n1⟩:=cnt_of (q:=1) (L:=r.pats.flatMap po) (by omega)
 obtain⟨k8,v8,n8⟩:=cnt_of (q:=8) (L:=po r.rhs) (by omega)
 obtain⟨k2,v2,n2⟩:=cnt_of (q:=1) (L:=[r.rhs].flatMap po) (by simp;omega)
 refine c_variables r.pk r.pats (by omega) hpf hpv (fun h4 m4 ex4 hm4 hn4 hok1 gm1=>?_)
 have g14:gt h4 1=.cells 6 (cR r):=by rw[ex4.k _ n3,g1]
 refine onc (And.intro g14 sP) ?_
 rw[rhs_Sv r]
 refine sem_le (LeL.cons (rhs_le r) LeL.nil) (c_letsM r.rhs hrf (fun x hx h1=>by have:=c7.lv hx h1;omega) (fun h5 m5 ex5 hm5 hn5 hok8 gm8=>?_))
 have g15:gt h5 1=.cells 6 (cR r):=by rw[ex5.k _ (Nat.lt_of_lt_of_le n3 ex4.n),g14]
 have gm15:gt h5 m4=cMap (runL (cStep 1) cn0 (r.pats.flatMap po)).1:=by rw[ex5.k _ hn4,gm1]
 have n5:1<h5.n:=Nat.lt_of_lt_of_le n3 (Nat.le_trans ex4.n ex5.n)
 have hmg:=fun KK=>s_mrgI (KK:=KK) gm15
 refine onc hmg ?_
 generalize hs1:(runL (cStep 1) cn0 (r.pats.flatMap po)).1=s1 at *
 generalize hs8:(runL (cStep 8) cn0 (po r.rhs)).1=s8 at *
 unfold cMap at gm15 gm8
 have e50:Ex h5 (nw h5 (.itm h5.n m4 s1.1.length (nats s1.1.length) s1.1.length)):=(Ex.refl h5).nw
 refine ho_lp (fun (left:List Nat) v h'=>(∃a1 a2 a3 a4 a5 a6 b1 b2 b3 b4 b5,v=[a1,a2,a3,a4,a5,a6,.ref h5.n 0,b1,b2,b3,b4,b5,.mp m5,.mp m4,.bool false,.ref 1 0])∧(Ex h5 h'∧h5.n<h'.n)∧(∃cur,gt h' h5.n=.itm h5.n m4 s1.1.length left cur)∧(∀i,i∈left→i<s1.1.length)∧Came s1.1 left (fun n=>s1.2 n≤1∧n<r.vars)) (fun left=>left.length) (nats s1.1.length) ⟨⟨_,_,_,_,_,_,_,_,_,_,_,rfl⟩,⟨e50,Nat.lt_succ_self _⟩,⟨_,gt_nw _ _⟩,fun i hi=>nats_mem.1 hi,Came.start⟩ (by have:=nats_len s1.1.length;omega) ?_
 rintro left v h' L ⟨⟨a1,a2,a3,a4,a5,a6,b1,b2,b3,b4,b5,rfl⟩,⟨ex6,hn6⟩,⟨cur,gi⟩,hlt,hcm⟩ ih
 have gm6:gt h' m4=.map 3 (ent kI (cV s1.2) s1.1):=by rw[ex6.k _ (by omega),gm15]
 have g16:gt h' 1=.cells 6 (cR r):=by rw[ex6.k _ n5,g15]
 refine on ?_
 refine ho_next gi gm6 hlt (fun hnil=>?_) (fun i hi=>?_)
 case refine_2=>
  have hik:=hlt i hi
  have gi2:gt (st h' h5.n (.itm h5.n m4 s1.1.length (delN i left) i)) h5.n=.itm h5.n m4 s1.1.length (delN i left) i:=gt_st _ _ _
  have gm2:gt (st h' h5.n (.itm h5.n m4 s1.1.length (delN i left) i)) m4=.map 3 (ent kI (cV s1.2) s1.1):=by rw[gt_st_ne _ _ (by omega),gm6]
  have hen:=fun K=>s_entry (K:=K) gi2 gm2 hik
  have hmem:=getD_mem0 hik
  refine onc (And.intro hen <| And.intro g16 sP) (ho_br (fun c8=>?_) (fun c8=>?_))
  ·refine onc c8 ?_
   refine no (fun e=>?_) _
   have:=(e.f8 _ ((k1 _).1 hmem)).1
   rw[v1] at c8
   omega
  refine onc (And.intro c8 <| And.intro g16 sP) (ho_br (fun c9=>?_) (fun c9=>?_))
  ·refine onc c9 ?_
   refine no (fun e=>?_) _
   have:=(e.f8 _ ((k1 _).1 hmem)).2
   omega
  refine onc c9 ?_
  exact ih (delN i left) _ _ ⟨⟨_,_,_,_,_,_,_,_,_,_,_,rfl⟩,⟨ex6.st (Nat.le_refl _),hn6⟩,⟨_,gi2⟩,delN_lt hlt,hcm.next ⟨by omega,by omega⟩⟩ (delN_len hi)
 subst hnil
 have all1:=hcm.all
 clear ih
 have e3:tb 3 (nx (dr 2 (cR r)))=cT r.rhs:=by rw[cT_eq];rfl
 refine onc (And.intro e3 <| And.intro @cT_spl <| And.intro g16 sP) ?_
 have g1':gt (nw h' (.cells 3 (cT r.rhs))) h'.n=.cells 3 (cT r.rhs):=gt_nw _ _
 have exf:Ex h' (st (nw h' (.cells 3 (cT r.rhs))) h'.n (.fce 3 (cT r.rhs))):=(Ex.refl h').nw.st (Nat.le_refl _)
 refine sem_fr (FrL.cons (frz_T1 g1') FrL.nil) (fz_T11 g1') (sem_le (LeL.cons le_T1 LeL.nil) (c_variables .opn [r.rhs] (by simp) (fun t ht=>by rw[List.mem_singleton.1 ht];exact hrf) (fun t ht x hx h1=>by
  rw[List.mem_singleton.1 ht] at hx
  have:=c7.pv hx h1
  omega) (fun h7 m7 ex7' hm7 hn7 hok2 gm7=>?_)))
 have ex7:=ex6.trans (exf.trans ex7')
 have g17:gt h7 1=.cells 6 (cR r):=by rw[ex7.k _ n5,g15]
 have gm17:gt h7 m4=.map 3 (ent kI (cV s1.2) s1.1):=by rw[ex7.k _ (by have:=ex5.n;omega),gm15]
 have gm87:gt h7 m5=.map 3 (ent kI (cV s8.2) s8.1):=by rw[ex7.k _ hn5,gm8]
 have n57:h5.n≤h7.n:=ex7.n
 have hmg2:=fun KK=>s_mrgI (KK:=KK) gm7
 refine onc hmg2 ?_
 generalize hs2:(runL (cStep 1) cn0 ([r.rhs].flatMap po)).1=s2 at *
 unfold cMap at gm7
 refine ho_lp (fun (left:List Nat) v h'=>(∃a1 a2 a3 a4 a5 a6 a7,v=[a1,a2,a3,a4,.ref h7.n 0,a5,a6,a7,.mp m5,.mp m4,.bool false,.ref 1 0])∧(Ex h7 h'∧h7.n<h'.n)∧(∃cur,gt h' h7.n=.itm h7.n m7 s2.1.length left cur)∧(∀i,i∈left→i<s2.1.length)∧Came s2.1 left (fun n=>n<r.vars)) (fun left=>left.length) (nats s2.1.length) ⟨⟨_,_,_,_,_,_,_,rfl⟩,⟨(Ex.refl h7).nw,Nat.lt_succ_self _⟩,⟨_,gt_nw _ _⟩,fun i hi=>nats_mem.1 hi,Came.start⟩ (by have:=nats_len s2.1.length;omega) ?_
 clear hlt hcm gi hn6 cur
 rintro left v h8 L ⟨⟨a1,a2,a3,a4,a5,a6,a7,rfl⟩,⟨ex8,hn8⟩,⟨cur,gi⟩,hlt,hcm⟩ ih
 have gm78:gt h8 m7=.map 3 (ent kI (cV s2.2) s2.1):=by rw[ex8.k _ hn7,gm7]
 have g18:gt h8 1=.cells 6 (cR r):=by rw[ex8.k _ (by omega),g17]
 refine on ?_
 refine ho_next gi gm78 hlt (fun hnil=>?_) (fun i hi=>?_)
 case refine_2=>
  have hik:=hlt i hi
  have gi2:gt (st h8 h7.n (.itm h7.n m7 s2.1.length (delN i left) i)) h7.n=.itm h7.n m7 s2.1.length (delN i left) i:=gt_st _ _ _
  have gm2:gt (st h8 h7.n (.itm h7.n m7 s2.1.length (delN i left) i)) m7=.map 3 (ent kI (cV s2.2) s2.1):=by rw[gt_st_ne _ _ (by omega),gm78]
  have hen:=fun K=>s_entry (K:=K) gi2 gm2 hik
  have hmem:=getD_mem0 hik
  refine onc (And.intro hen <| And.intro g18 sP) (ho_br (fun c8=>?_) (fun c8=>?_))
  ·refine onc c8 ?_
   refine no (fun e=>?_) _
   have:=e.f9 _ (hsing▸(k2 _).1 hmem)
   omega
  refine onc c8 ?_
  exact ih (delN i left) _ _ ⟨⟨_,_,_,_,_,_,_,rfl⟩,⟨ex8.st (Nat.le_refl _),hn8⟩,⟨_,gi2⟩,delN_lt hlt,hcm.next (by omega)⟩ (delN_len hi)
 subst hnil
 have all2:=hcm.all
 clear ih
 have gm88:gt h8 m5=.map 3 (ent kI (cV s8.2) s8.1):=by rw[ex8.k _ (by omega),gm87]
 have gm18:gt h8 m4=.map 3 (ent kI (cV s1.2) s1.1):=by rw[ex8.k _ (by have:=ex5.n;omega),gm17]
 have hmg3:=fun KK=>s_mrgI (KK:=KK) gm88
 refine onc hmg3 ?_
 have n78:=ex8.n
 refine ho_lp (fun (left:List Nat) v h'=>(∃a1 a2 a3 a4,v=[a1,a2,.ref h8.n 0,a3,a4,.mp m5,.mp m4,.bool false,.ref 1 0])∧(Ex h8 h'∧h8.n<h'.n)∧(∃cur,gt h' h8.n=.itm h8.n m5 s8.1.length left cur)∧(∀i,i∈left→i<s8.1.length)∧Came s8.1 left (fun n=>s8.2 n≤1∧n<r.vars∧s1.2 n≤0)) (fun left=>left.length) (nats s8.1.length) ⟨⟨_,_,_,_,rfl⟩,⟨(Ex.refl h8).nw,Nat.lt_succ_self _⟩,⟨_,gt_nw _ _⟩,fun i hi=>nats_mem.1 hi,Came.start⟩ (by have:=nats_len s8.1.length;omega) ?_
 clear hlt hcm gi cur
 rintro left v h9 L ⟨⟨a1,a2,a3,a4,rfl⟩,⟨ex9,hn9⟩,⟨cur,gi⟩,hlt,hcm⟩ ih
 have gm89:gt h9 m5=.map 3 (ent kI (cV s8.2) s8.1):=by rw[ex9.k _ (by omega),gm88]
 have gm19:gt h9 m4=.map 3 (ent kI (cV s1.2) s1.1):=by rw[ex9.k _ (by have:=ex5.n;omega),gm18]
 have g19:gt h9 1=.cells 6 (cR r):=by rw[ex9.k _ (by omega),g18]
 refine on ?_
 refine ho_next gi gm89 hlt (fun hnil=>?_) (fun i hi=>?_)
 case refine_2=>
  have hik:=hlt i hi
  have gi2:gt (st h9 h8.n (.itm h8.n m5 s8.1.length (delN i left) i)) h8.n=.itm h8.n m5 s8.1.length (delN i left) i:=gt_st _ _ _
  have gm2:gt (st h9 h8.n (.itm h8.n m5 s8.1.length (delN i left) i)) m5=.map 3 (ent kI (cV s8.2) s8.1):=by rw[gt_st_ne _ _ (by omega),gm89]
  have hen:=fun K=>s_entry (K:=K) gi2 gm2 hik
  have hmem:=getD_mem0 hik
  have hk8:=(k8 _).1 hmem
  have hkb : -1000000≤s8.1.getD i 0∧s8.1.getD i 0≤1000000:=by
   obtain⟨x,hx,he⟩:=List.mem_map.1 hk8
   obtain⟨h1,h2⟩:=List.mem_filter.1 hx
   have:=c7.lv h1 (of_decide_eq_true h2)
   omega
  have hkk:=keyI_ok hkb.1 hkb.2
  refine onc (And.intro hen <| And.intro g19 sP) (ho_br (fun c8=>?_) (fun c8=>?_))
  ·refine onc c8 ?_
   refine no (fun e=>?_) _
   have:=(e.fa _ hk8).1
   rw[v8] at c8
   omega
  refine onc (And.intro c8 <| And.intro g19 sP) (ho_br (fun c9=>?_) (fun c9=>?_))
  ·refine onc c9 ?_
   refine no (fun e=>?_) _
   have:=(e.fa _ hk8).2.1
   omega
  have nxt:∀z,z=s1.2 (s8.1.getD i 0)→¬0<z→Came s8.1 (delN i left) (fun n=>s8.2 n≤1∧n<r.vars∧s1.2 n≤0):=fun z hz h0=>hcm.next ⟨by omega,by omega,by omega⟩
  refine onc (And.intro c9 <| And.intro hkk <| And.intro gm19 <| And.intro @s_wMa <| And.intro @s_wKI <| And.intro @s_lkm1 <| And.intro @s_mfI sP) (ho_br (fun ca=>?_) (fun ca=>?_))
  ·have e2:cV s1.2 (s8.1.getD i 0)=.int .i64 (s1.2 (s8.1.getD i 0)):=rfl
   refine onc (And.intro c9 e2) (ho_br (fun cb=>?_) (fun cb=>?_))
   ·refine onc (And.intro c9 cb) ?_
    refine no (fun e=>?_) _
    have:=(e.fa _ hk8).2.2
    rw[v1] at cb
    omega
   ·refine onc (And.intro c9 cb) ?_
    exact ih (delN i left) _ _ ⟨⟨_,_,_,_,rfl⟩,⟨ex9.st (Nat.le_refl _),hn9⟩,⟨_,gi2⟩,delN_lt hlt,nxt _ rfl cb⟩ (delN_len hi)
  ·refine onc c9 ?_
   exact ih (delN i left) _ _ ⟨⟨_,_,_,_,rfl⟩,⟨ex9.st (Nat.le_refl _),hn9⟩,⟨_,gi2⟩,delN_lt hlt,nxt 0 (hok1.2 _ ca).symm (by omega)⟩ (delN_len hi)
 subst hnil
 have all8:=hcm.all
 clear ih
 refine onc (And.intro g19 sP) ?_
 refine sem_le (LeL.cons (rhs_le r) LeL.same2) (c_scoped hok8 m5 r.rhs 1000 [] _ h9 _ hrf.B (by simp) (fun x hx h1=>by have:=c7.pv hx h1;omega) (.inl ⟨rfl,rfl⟩) (by omega) gm89 (fun ha exa=>?_))
 refine fin_b ?_
 have hf8:s8.2=fun n=>((occ 8 (po r.rhs)).count n:Int):=funext v8
 rw[←dB (scopeB s8.2 r.rhs [])]
 refine decide_eq_decide.2 ⟨fun h=>?_,fun h=>by rw[hf8];exact h.fb⟩
 refine⟨by omega,by omega,Classical.not_not.1 c3,by omega,by omega,ha',c7,fun n hn=>?_,fun n hn=>all2 n ((k2 n).2 (by simpa using hn)),fun n hn=>?_,by rw[←hf8];exact h⟩
 ·obtain⟨h1,h2⟩:=all1 n ((k1 n).2 hn)
  rw[v1] at h1
  exact⟨by omega,h2⟩
 ·obtain⟨h1,h2,h3⟩:=all8 n ((k8 n).2 hn)
  rw[v8] at h1
  rw[v1] at h3
  exact⟨by omega,h2,by omega⟩
end
end Go.Proofs.YtgmjpmeddajmgaaGreat
namespace Go.Proofs.YtgmjpmeddajmgaaGreat
open Go Go.Avm Go.Bvm
set_option maxRecDepth 100000
set_option linter.unusedVariables false
set_option linter.unusedSimpArgs false
set_option linter.defProp false
noncomputable section
attribute [local irreducible] jn jv br lp ck iff wB wG wRef wSl wCl wAg wTu wStr wFn wIfc wInt wCe wRe wMp wFr ad sb ml lt le eqi nei eq1 isNil un cvt fa len lens ix ixA ixS ixV ld1 ldn sto al bx pt bs ms app cpy sli lkm mup men mst mrg srg snx mnx mtr tas lenm rgT rgE finR mfind mset mput wKey wMa sV sem fin Ho
theorem t_124 (t:Tb)(h:H)(K Pn:KVH)(x0 x1:AV):(compF Tryz.prog (drawsC Tryz.prog) 124).r t [x0,x1] h K Pn=ck true (bx x1 h fun v h=>(t.C 171).r [x0,AV.fn 172 0 (nx []) 1 (nx [v])] h (fun v h=>un v fun v=>K v h) Pn):=by kernel_rfl
theorem t_171 (t:Tb)(h:H)(K Pn:KVH)(x0 x1:AV):(compF Tryz.prog (drawsC Tryz.prog) 171).r t [x0,x1] h K Pn=ck true ((t.C 204).r [x0,x1] h (fun v h=>le (mkI 0) v fun v=>K v h) Pn):=by kernel_rfl
theorem t_204 (t:Tb)(h:H)(K Pn:KVH)(x0 x1:AV):(compF Tryz.prog (drawsC Tryz.prog) 204).r t [x0,x1] h K Pn=ck true (len x0 fun v=>jn (fun l h=>K (AV.int IntKind.i64 (Int.negSucc 0)) h) fun k=>lp (fun L l h=>e8 l fun x x_1 x_2 x_3 x_4 x_5 x_6 x_7=>lt x_2 x_3 fun v=>jn (fun l h=>e6 l fun x x_8 x_9 x_10 x_11 x_12=>jn (fun l h=>e8 l fun x x_13 x_14 x_15 x_16 x_17 x_18 x_19=>ad x_14 (mkI 1) fun v=>L [x,x_13,v,x_15,x_16,x_17,x_18,x_19] h) fun k=>ix 6 x_12 x_8 fun v=>ldn 6 h v fun v=>wFn x_11 (fun g na a nb b=>(t.C g).r (ap (tb na a) (v::tb nb b)) h (fun v h=>jn k fun k=>wB v (K x_8 h) (k [v,x,x_8,x_9,x_8,x_10,x_11,x_12] h)) Pn) fun o=>(t.R o).r [v] h (fun v h=>jn k fun k=>wB v (K x_8 h) (k [v,x,x_8,x_9,x_8,x_10,x_11,x_12] h)) Pn) fun k_1=>wB v (k_1 [v,x_2,x_3,x_5,x_6,x_7] h) (k [] h)) [AV.any,AV.any,mkI 0,v,AV.any,mkI 0,x1,x0] h):=by kernel_rfl
theorem t_172 (t:Tb)(h:H)(K Pn:KVH)(x0 x1:AV):(compF Tryz.prog (drawsC Tryz.prog) 172).r t [x0,x1] h K Pn=ck true (bx x0 h fun v h=>ld1 h x1 fun v_1=>ldn 6 h v fun v=>wFn v_1 (fun g na a nb b=>(t.C g).r (ap (tb na a) (v::tb nb b)) h (fun v h=>un v fun v=>K v h) Pn) fun o=>(t.R o).r [v] h (fun v h=>un v fun v=>K v h) Pn):=by kernel_rfl
theorem t_125 (t:Tb)(h:H)(K Pn:KVH)(x0 x1:AV):(compF Tryz.prog (drawsC Tryz.prog) 125).r t [x0,x1] h K Pn=ck true (bx x0 h fun v h=>fa 0 x1 fun v_1=>ldn 2 h v_1 fun v_2=>ldn 6 h v fun v=>(t.C 126).r [v_2,v] h (fun v h=>K v h) Pn):=by kernel_rfl
theorem t_73 (t:Tb)(h:H)(K Pn:KVH)(x0:AV):(compF Tryz.prog (drawsC Tryz.prog) 73).r t [x0] h K Pn=ck true (bx x0 h fun v h=>fa 2 v fun v_1=>ld1 h v_1 fun v_2=>len v_2 fun v_3=>le v_3 (mkI 16) fun v_4=>jv (fun v_5 h=>jv (fun v_6 h=>jv (fun v_7 h=>jv (fun v_8 h=>jv (fun v_9 h=>jv (fun v_10 h=>jv (fun v_11 h=>jv (fun v h=>jv (fun v h=>jv K fun k=>wB v_9 (k v h) (k (AV.bool false) h)) fun k=>wG true v_9 ((t.C 124).r [v_11,v] h k Pn) (k skipV h)) fun k=>wG true v_9 (k (AV.fn 125 0 (nx []) 1 (nx [v])) h) (k skipV h)) fun k=>wG true v_9 (ld1 h v_10 fun v=>k v h) (k skipV h)) fun k=>wG true v_9 (fa 2 v fun v=>k v h) (k skipV h)) fun k=>wB v_4 (k v_8 h) (k (AV.bool false) h)) fun k=>wG true v_4 (eqi v_7 (mkI 0) fun v=>k v h) (k skipV h)) fun k=>wG true v_4 ((t.C 123).r [v_6] h k Pn) (k skipV h)) fun k=>wG true v_4 (ldn 2 h v_5 fun v=>k v h) (k skipV h)) fun k=>wG true v_4 (fa 0 v fun v=>k v h) (k skipV h)):=by kernel_rfl
theorem t_55 (t:Tb)(h:H)(K Pn:KVH)(x0 x1:AV):(compF Tryz.prog (drawsC Tryz.prog) 55).r t [x0,x1] h K Pn=ck true (bx x0 h fun v h=>ldn 3 h v fun v_1=>(t.C 73).r [v_1] h (fun v_2 h=>jv (fun v_3 h=>jv (fun v_4 h=>jv (fun v_5 h=>jv (fun v_6 h=>jv (fun v h=>jv (fun v h=>jv (fun v h=>jv (fun v h=>jv (fun v h=>jv K fun k=>wB v_5 (k v h) (k (AV.bool false) h)) fun k=>wG true v_5 (lt v_6 v fun v=>k v h) (k skipV h)) fun k=>wG true v_5 (len v fun v=>k v h) (k skipV h)) fun k=>wG true v_5 (ld1 h v fun v=>k v h) (k skipV h)) fun k=>wG true v_5 (fa 1 v fun v=>k v h) (k skipV h)) fun k=>wG true v_5 (fa 0 v fun v=>k v h) (k skipV h)) fun k=>wG true v_5 (k x1 h) (k skipV h)) fun k=>wB v_2 (k v_4 h) (k (AV.bool false) h)) fun k=>wG true v_2 (le (mkI 0) v_3 fun v=>k v h) (k skipV h)) fun k=>wG true v_2 (k x1 h) (k skipV h)) Pn):=by kernel_rfl
theorem t_60 (t:Tb)(h:H)(K Pn:KVH)(x0 x1:AV):(compF Tryz.prog (drawsC Tryz.prog) 60).r t [x0,x1] h K Pn=ck true (bx x0 h fun v h=>fa 2 v fun v=>ld1 h v fun v=>len v fun v_1=>jn (fun l h=>e1 l fun x=>K x h) fun k=>lp (fun L l h=>e10 l fun x x_1 x_2 x_3 x_4 x_5 x_6 x_7 x_8 x_9=>lt x_2 x_3 fun v=>jn (fun l h=>e7 l fun x x_10 x_11 x_12 x_13 x_14 x_15=>jn (fun l h=>e10 l fun x x_16 x_17 x_18 x_19 x_20 x_21 x_22 x_23 x_24=>ad x_17 (mkI 1) fun v=>L [x,x_16,v,x_18,x_19,x_20,x_21,x_22,x_23,x_24] h) fun k=>ix 6 x_12 x_10 fun v=>ldn 6 h v fun v=>al 6 [mkI 0,AV.fz Fz.nil 0 0 fun _ _=>AV.any,mkI 0,mkI 0,AV.fz Fz.nil 0 0 fun _ _=>AV.any,mkI 0] h fun v_2 h=>sto 6 h v_2 v fun h=>fa 0 v_2 fun v=>ld1 h v fun v=>eqi v x_15 fun v=>jn k fun k=>wB v (pt 0 1 x_10 [mkI 0] fun cs=>bs 1 1 1 cs h fun v_3 h=>app 1 8 x_13 v_3 h fun v_4 h=>k [v,x,x_10,x_11,x_12,v_2,x_10,v_4,x_14,x_15] h) (k [v,x,x_10,x_11,x_12,v_2,x_10,x_13,x_14,x_15] h)) fun k_1=>wB v (k_1 [v,x_2,x_3,x_4,x_7,x_8,x_9] h) (k [x_7] h)) [AV.any,AV.any,mkI 0,v_1,v,AV.any,AV.any,AV.fz Fz.nil 0 0 fun _ _=>AV.any,AV.fz Fz.nil 0 0 fun _ _=>AV.any,x1] h):=by kernel_rfl
theorem c_allR {x:AV}{o:Nat}{σ:Type}{I:Bool→σ→H→Prop}{step:σ→Rl→σ × Bool}{D:Rl→Prop}(hx:FnOk x o (fun t=>[eR t]) I step D)(hm:Mo I)(hw:∀F,wCl x F=F 1 [x])(k:Fz)(l:List Rl)(hl:l.length≤2000)(hD:∀t,t∈l→D t)(s0:σ)(hs:H)(ho:o<hs.n)(hI:I true s0 hs){K:KVH}
  (hK:∀h',Kp o hs h'→I (runL step s0 l).2 (runL step s0 l).1 h'→Ho (K (.bool (runL step s0 l).2) h')):Ho (((sem Tryz.prog).C 124).r [fzM k 6 cR l,x] hs K noP):=by
 refine sem_fn prOk (by kernel_rfl) ?_
 rw[t_124]
 refine onc hw ?_
 refine sem_fn prOk (by kernel_rfl) ?_
 rw[t_171]
 refine on ?_
 refine sem_fn prOk (by kernel_rfl) ?_
 rw[t_204]
 refine on ?_
 have e0:Ex hs (nw hs (.cells 1 [x])):=(Ex.refl hs).nw
 refine ho_lp (fun (y:Nat × σ) v h=>(∃a b c d,v=[a,b,.int .i64 y.1,.int .i64 l.length,c,d,.fn 172 0 (nx []) 1 (nx [.ref hs.n 0]),fzM k 6 cR l])∧y.1≤l.length∧Kp o hs h∧hs.n<h.n∧gt h hs.n=.cells 1 [x]∧I true y.2 h∧runL step s0 l=runL step y.2 (l.drop y.1)) (fun y=>l.length-y.1) (0,s0) ⟨⟨_,_,_,_,rfl⟩,Nat.zero_le _,e0.kp,Nat.lt_succ_self _,gt_nw hs _,hm _ _ _ _ e0 hI,rfl⟩ (by show l.length-0<_;omega) ?_
 rintro ⟨i,s⟩ v h L ⟨⟨a,b,c,d,rfl⟩,hi,hk,hn,hg,hI',he⟩ ih
 simp only at hi hk hI' he
 refine on (ho_br (fun c1=>?_) (fun c1=>?_))
 ·rw[drop_cons (l:=l) (i:=i) (by omega),runL] at he
  refine onc sP ?_
  refine sem_fn prOk (by kernel_rfl) ?_
  show Ho ((compF Tryz.prog (drawsC Tryz.prog) 172).r (sem Tryz.prog) [eR (l.getD i default),.ref hs.n 0] h _ noP)
  rw[t_172]
  refine onc (And.intro hg sP) ?_
  have e1:Ex h (nw h (.cells 6 (cR (l.getD i default)))):=(Ex.refl h).nw
  refine hx s (l.getD i default) _ _ (hD _ (getD_mem (by omega))) (hm _ _ _ _ e1 hI') (fun h' hk' hI2=>?_)
  have hk2:=e1.kp.trans hk'
  have n':h.n+1≤h'.n:=hk'.n
  cases hb:(step s (l.getD i default)).2 with
  |true=>
   rw[if_pos hb] at he
   refine on ?_
   rw[hb] at hI2
   exact ih (i+1,_) _ _ ⟨⟨_,_,_,_,rfl⟩,by show i+1≤_;omega,hk.trans hk2,by omega,by rw[hk2.k _ ho hn];exact hg,hI2,he⟩ (by show l.length-(i+1)<l.length-i;omega)
  |false=>
   rw[hb,if_neg (by decide)] at he
   refine on ?_
   rw[hb] at hI2
   have:=hK h' (hk.trans hk2)
   rw[he] at this
   refine onc (show(0:Int)≤i by omega) ?_
   exact this hI2
 ·rw[List.drop_eq_nil_of_le (by omega),runL] at he
  refine on ?_
  have:=hK h hk
  rw[he] at this
  exact this hI'
structure progP (p:Pg):Prop where
 f1:p.rules.length≤16
 f2:sigOk p.sig
 f3:∀r,r∈p.rules→ruleP p.sig r
instance (p:Pg):Decidable (progP p):=Classical.propDecidable _
theorem eP_below (p:Pg):Below 0 (eP p):=allN_iff.2 (lt3 trivial trivial trivial)
theorem c_progP (p:Pg)(hp:smallP p):Pu Tryz.prog 73 [eP p] (.bool (decide (progP p))):=by
 refine Pu.of prOk (by kernel_rfl) ⟨eP_below _,trivial⟩ ?_
 rw[t_73]
 have h1:=hp.f1
 refine onc sP (ho_br (fun c1=>?_) (fun c1=>?_))
 case refine_2=>
  refine onc c1 ?_
  exact fin_b (decide_eq_false fun e=>by have:=e.f1;omega).symm
 refine onc (And.intro c1 sP) ?_
 refine(c_CheckSig p.sig hp.f3).le (LeL.cons (le_sig p) LeL.nil) ?_
 unfold okI
 by_cases c2:sigOk p.sig
 case neg=>
  rw[if_neg c2]
  refine onc c1 ?_
  exact fin_b (decide_eq_false fun e=>c2 e.f2).symm
 rw[if_pos c2]
 refine onc (And.intro c1 sP) ?_
 refine c_allR (o:=0) (I:=fun _ (_:Unit) h=>0<h.n∧gt h 0=.cells 3 (cP p)) (step:=fun _ r=>((),decide (ruleP p.sig r))) (D:=smallR) ?_ ?_ (fun F=>s_clfn) p.rk p.rules (by omega) hp.f2 () _ (by show 0<1;omega) ⟨by show 0<1;omega,gt_nw h0 _⟩ (fun h' _ _=>?_)
 ·intro _ r h K hr ⟨hn,hg⟩ hK
  refine ho_cl ?_
  show Ho (((sem Tryz.prog).C 125).r [eR r,.ref 0 0] h K noP)
  refine sem_fn prOk (by kernel_rfl) ?_
  rw[t_125]
  refine onc (And.intro hg sP) ?_
  refine(c_ruleP p.sig r hp.f3 c2 hr).le (LeL.cons (le_sig p) (LeL.same LeL.nil)) ?_
  refine on ?_
  exact hK _ (Ex.refl h).nw.kp ⟨Nat.lt_succ_of_lt hn,by rw[gt_nw_ne h _ (by omega)];exact hg⟩
 ·rintro _ _ h h' e ⟨h3,h4⟩
  exact⟨Nat.lt_of_lt_of_le h3 e.n,by rw[e.k _ h3,h4]⟩
 ·rw[runL_all]
  refine onc c1 ?_
  refine fin_b ?_
  rw[←dB (p.rules.all _)]
  refine decide_eq_decide.2 ?_
  rw[List.all_eq_true]
  exact⟨fun h=>⟨by omega,c2,fun r hr=>of_decide_eq_true (h r hr)⟩,fun h r hr=>decide_eq_true (h.f3 r hr)⟩
def funIn (p:Pg)(n:Int):Prop:=0≤n∧n<p.sig.funs.length
instance (p:Pg)(n:Int):Decidable (funIn p n):=by unfold funIn;infer_instance
theorem c_hasP (p:Pg)(hp:smallP p)(n:Int):Pu Tryz.prog 55 [eP p,.int .i64 n] (.bool (decide (progP p∧funIn p n))):=by
 refine Pu.of prOk (by kernel_rfl) ⟨eP_below _,trivial,trivial⟩ ?_
 rw[t_55]
 generalize he:decide (progP p∧funIn p n)=b
 refine onc sP ?_
 refine(c_progP p hp).call ?_
 refine onc sP (ho_br (fun c=>?_) (fun c=>?_))
 ·refine onc (And.intro c sP) (ho_br (fun c1=>?_) (fun c1=>?_))
  ·refine onc (And.intro c1 sP) ?_
   exact fin_b (Eq.trans (decide_eq_decide.2 ⟨fun h=>⟨c,c1,h⟩,fun h=>h.2.2⟩) he)
  ·refine onc (And.intro c1 sP) ?_
   exact fin_b (Eq.trans (decide_eq_false fun e=>c1 e.2.1).symm he)
 ·refine onc (And.intro c sP) ?_
  exact fin_b (Eq.trans (decide_eq_false fun e=>c e.1).symm he)
def ofL:List Rl→Int→Int→List Int
 |[],_,_=>[]
 |r::l,i,n=>if r.fn=n then i::ofL l (i+1) n else ofL l (i+1) n
theorem ofL_len:∀(l:List Rl) (i n:Int),(ofL l i n).length≤l.length
 |[],_,_=>by simp[ofL]
 |r::l,i,n=>by
  have:=ofL_len l (i+1) n
  rw[ofL]
  split <;> simp <;> omega
end
end Go.Proofs.YtgmjpmeddajmgaaGreat
namespace Go.Proofs.YtgmjpmeddajmgaaGreat
open Go Go.Avm Go.Bvm
set_option maxRecDepth 100000
set_option linter.unusedVariables false
set_option linter.unusedSimpArgs false
set_option linter.defProp false
noncomputable section
attribute [local irreducible] jn jv br lp ck iff wB wG wRef wSl wCl wAg wTu wStr wFn wIfc wInt wCe wRe wMp wFr ad sb ml lt le eqi nei eq1 isNil un cvt fa len lens ix ixA ixS ixV ld1 ldn sto al bx pt bs ms app cpy sli lkm mup men mst mrg srg snx mnx mtr tas lenm rgT rgE finR mfind mset mput wKey wMa sV sem fin Ho
def ruleIn (p:Pg)(n:Int):Prop:=0≤n∧n<p.rules.length
instance (p:Pg)(n:Int):Decidable (ruleIn p n):=by unfold ruleIn;infer_instance
end
end Go.Proofs.YtgmjpmeddajmgaaGreat
namespace Go.Proofs.YtgmjpmeddajmgaaGreat
open Go Go.Avm Go.Bvm
set_option maxRecDepth 100000
set_option linter.unusedVariables false
set_option linter.unusedSimpArgs false
set_option linter.defProp false
noncomputable section
attribute [local irreducible] jn jv br lp ck iff wB wG wRef wSl wCl wAg wTu wStr wFn wIfc wInt wCe wRe wMp wFr ad sb ml lt le eqi nei eq1 isNil un cvt fa len lens ix ixA ixS ixV ld1 ldn sto al bx pt bs ms app cpy sli lkm mup men mst mrg srg snx mnx mtr tas lenm rgT rgE finR mfind mset mput wKey wMa sV sem fin Ho
def sumV:List Tm→Nat
 |[]=>0
 |t::r=>(varsT t).length+sumV r
abbrev whole (k:Fz)(l:List Tm):Tm:=.mk 0 0 k l
theorem few_of {t:Tm}{d:Int}(h1:(pre t 1).length≤1000)(h2:∀x,x∈pre t 1→x.2<1+d):Few t:=⟨1000,d,by omega,by rw[weigh_pre t 1000 d 1 (by omega),if_pos ⟨by omega,h2⟩];omega⟩
theorem small_pre {t:Tm}(h:small t)(e:Int):(pre t e).length≤50∧∀x,x∈pre t e→x.2<e+14:=by
 unfold small at h
 rw[weigh_pre t 50 14 e (by omega)] at h
 split at h
 ·rename_i c
  exact⟨by omega,c.2⟩
 ·omega
theorem pres_small:∀{l:List Tm},(∀t,t∈l→small t)→∀(e:Int),(pres l e).length≤50*l.length∧∀x,x∈pres l e→x.2<e+14
 |[],_,e=>by rw[pres];exact⟨by simp,fun x hx=>by cases hx⟩
 |t::r,h,e=>by
  obtain⟨h1,h2⟩:=small_pre (h t List.mem_cons_self) e
  obtain⟨h3,h4⟩:=pres_small (l:=r) (fun s hs=>h s (List.mem_cons_of_mem _ hs)) e
  rw[pres,forall_app,List.length_append,List.length_cons]
  exact⟨by omega,h2,h4⟩
theorem whole_few {k:Fz}{l:List Tm}(h:smallTs l):Few (whole k l):=by
 obtain⟨h1,h2⟩:=pres_small h.f2 (1+1)
 have:=h.f1
 have hp:pre (whole k l) 1=(whole k l,1)::pres l (1+1):=by rw[pre_eq,pres_flat];rfl
 refine few_of (d:=15) ?_ ?_
 ·rw[hp,List.length_cons];omega
 ·rw[hp]
  intro x hx
  rcases List.mem_cons.1 hx with e|e
  ·rw[e];show(1:Int)<_;omega
  ·have:=h2 x e;omega
theorem _root_.Go.Bvm.LeL.same1 {a:AV}:LeL [a] [a]:=LeL.same LeL.nil
theorem c_linear (k:Fz)(l:List Tm)(hl:l.length≤1000)(hf:∀t,t∈l→Few t)(hw:Few (whole k l)):Pu Tryz.prog 161 [eTs k l] (.bool (decide (sumV l=(varsT (whole k l)).length))):=by
 refine Pu.of prOk (by kernel_rfl) ⟨trivial,trivial⟩ ?_
 rw[t_161]
 refine on ?_
 refine ho_lp (fun (x:Nat × Nat) v h=>(∃a,v=[a,.int .i64 x.1,.int .i64 x.2,.bool false,eTs k l])∧x.1≤l.length∧x.2≤1000*x.1∧sumV l=x.2+sumV (l.drop x.1)) (fun x=>l.length-x.1) (0,0) ⟨⟨_,rfl⟩,Nat.zero_le _,Nat.le_refl _,by show sumV l=0+sumV l;omega⟩ (by show l.length-0<_;omega) ?_
 rintro ⟨i,n⟩ v h L ⟨⟨a,rfl⟩,hi,hn,he⟩ ih
 simp only at hi hn he
 refine on (ho_br (fun c1=>?_) (fun c1=>?_))
 ·rw[drop_cons (l:=l) (i:=i) (by omega),sumV] at he
  have hmem:l.getD i default∈l:=getD_mem (by omega)
  have hv:=(hf _ hmem).vars
  refine onc sT ?_
  refine(c_Vars _ (hf _ hmem)).call ?_
  refine on ?_
  exact ih (i+1,n+(varsT (l.getD i default)).length) _ _ ⟨⟨_,rfl⟩,by show i+1≤_;omega,by show n+_≤1000*(i+1);omega,by show sumV l=n+_+sumV (l.drop (i+1));omega⟩ (by show l.length-(i+1)<l.length-i;omega)
 ·rw[List.drop_eq_nil_of_le (by omega),sumV] at he
  refine on ?_
  refine(c_whole k l).call ?_
  refine on ?_
  refine(c_Vars _ hw).call ?_
  refine on ?_
  exact fin_b (decide_eq_decide.2 (by rw[he];exact⟨fun h=>by omega,fun h=>by omega⟩))
def apartP (t:Tm)(pats:List Int):Prop:=∀n,n∈letsT t→(letsT t).count n≤1∧n∉pats∧n∉varsT t
instance (t:Tm)(pats:List Int):Decidable (apartP t pats):=by unfold apartP;infer_instance
theorem eT_Sv (t:Tm):Sv (eT t):=Sv.agg (cT_Sv t)
theorem c_apart (t:Tm)(pats:List Int)(hf:Few t)(hp:pats.length≤1000):Pu Tryz.prog 162 [eT t,eI .auto pats] (.bool (decide (apartP t pats))):=by
 refine Pu.of prOk (by kernel_rfl) ⟨eT_below _,trivial,trivial⟩ ?_
 have hl:=hf.lets
 have hv:=hf.vars
 have no:¬apartP t pats→∀h,Ho (fin Tryz.prog (.bool (decide (apartP t pats))) (.bool false) h):=fun hn h=>fin_b (decide_eq_false hn).symm
 rw[t_162]
 refine onc sT ?_
 refine(c_lets t hf).call ?_
 refine onc sT ?_
 rw[eT_Sv t]
 refine(c_Vars t hf).call ?_
 refine on ?_
 refine ho_lp (fun (i:Nat) v h=>(∃a b,v=[a,b,.int .i64 i,eI .auto (varsT t),eI .auto (letsT t),.bool false,eI .auto pats])∧i≤(letsT t).length∧∀n,n∈(letsT t).take i→(letsT t).count n≤1∧n∉pats∧n∉varsT t) (fun i=>(letsT t).length-i) 0 ⟨⟨_,_,rfl⟩,Nat.zero_le _,fun x hx=>by cases hx⟩ (by omega) ?_
 rintro i v h L ⟨⟨a,b,rfl⟩,hi,hm⟩ ih
 refine on (ho_br (fun c1=>?_) (fun c1=>?_))
 ·have hmem:(letsT t).getD i default∈letsT t:=getD_mem (by omega)
  refine onc @cI0 ?_
  refine(c_count .auto (letsT t) _ (by omega)).call ?_
  refine on (ho_br (fun c2=>?_) (fun c2=>?_))
  ·refine onc c2 ?_
   exact no (fun e=>by have:=(e _ hmem).1;omega) _
  refine onc (And.intro c2 @cI0) ?_
  refine(c_has .auto pats _ (by omega)).call ?_
  refine onc c2 (ho_br (fun c3=>?_) (fun c3=>?_))
  ·refine onc c3 ?_
   exact no (fun e=>(e _ hmem).2.1 c3) _
  refine onc (And.intro c3 <| And.intro c2 @cI0) ?_
  refine(c_has .auto (varsT t) _ (by omega)).call ?_
  refine onc (And.intro c3 c2) (ho_br (fun c4=>?_) (fun c4=>?_))
  ·exact no (fun e=>(e _ hmem).2.2 c4) _
  refine on ?_
  exact ih (i+1) _ _ ⟨⟨_,_,rfl⟩,by omega,all_snoc (by omega) hm ⟨by omega,c3,c4⟩⟩ (by omega)
 ·rw[List.take_of_length_le (by omega)] at hm
  exact fin_b (decide_eq_true hm).symm
end
end Go.Proofs.YtgmjpmeddajmgaaGreat
namespace Go.Proofs.YtgmjpmeddajmgaaGreat
open Go Go.Avm Go.Bvm
set_option maxRecDepth 100000
set_option linter.unusedVariables false
set_option linter.unusedSimpArgs false
set_option linter.defProp false
noncomputable section
attribute [local irreducible] jn jv br lp ck iff wB wG wRef wSl wCl wAg wTu wStr wFn wIfc wInt wCe wRe wMp wFr ad sb ml lt le eqi nei eq1 isNil un cvt fa len lens ix ixA ixS ixV ld1 ldn sto al bx pt bs ms app cpy sli lkm mup men mst mrg srg snx mnx mtr tas lenm rgT rgE finR mfind mset mput wKey wMa sV sem fin Ho
theorem t_15 (t:Tb)(h:H)(K Pn:KVH)(x0:AV):(compF Tryz.prog (drawsC Tryz.prog) 15).r t [x0] h K Pn=ck true (bx x0 h fun v h=>ldn 3 h v fun v=>(t.C 62).r [v] h (fun v h=>K v h) Pn):=by kernel_rfl
structure ruleR (s:Sg)(r:Rl):Prop where
 f1:0≤r.fn∧r.fn≤(s.funs.length:Int)-1
 f2:(r.pats.length:Int)=(s.funs.getD r.fn.toNat default).args
 f3:0≤r.vars∧r.vars≤20
 f4:termOk s r.rhs
 f5:∀t,t∈r.pats→termOk s t∧patOk t∧lessB r.vars t=true
 f6:sumV r.pats=(varsT (whole r.pk r.pats)).length
 f7:lessB r.vars r.rhs=true
 f8:apartP r.rhs (varsT (whole r.pk r.pats))
instance (s:Sg)(r:Rl):Decidable (ruleR s r):=Classical.propDecidable _
set_option maxHeartbeats 8000000 in
theorem c_ruleR (s:Sg)(r:Rl)(hs:smallSg s)(hr:smallR r):Pu Tryz.prog 111 [eS' s,eR r] (.bool (decide (ruleR s r))):=by
 refine Pu.of prOk (by kernel_rfl) ⟨eS_below _,eR_below _,trivial⟩ ?_
 have hs1:=hs.f1
 have hs2:=hs.f2
 have hp:=hr.f1
 have hpl:=hp.f1
 have hpf:∀t,t∈r.pats→Few t:=fun t ht=>(hp.f2 t ht).few
 have hrf:Few r.rhs:=hr.f2.few
 have no:¬ruleR s r→∀h,Ho (fin Tryz.prog (.bool (decide (ruleR s r))) (.bool false) h):=fun hn h=>fin_b (decide_eq_false hn).symm
 rw[t_111]
 refine onc sP ?_
 refine(c_in _ _ _).call ?_
 refine onc sP (ho_br (fun c1=>?_) (fun c1=>?_))
 ·refine onc c1 ?_
  exact no (fun e=>c1 e.f1) _
 have c1':=Classical.not_not.1 c1
 refine onc (And.intro c1 sP) (ho_br (fun c2=>?_) (fun c2=>?_))
 ·refine onc c2 ?_
  exact no (fun e=>c2 e.f2) _
 refine onc (And.intro c2 <| And.intro c1 sP) ?_
 refine(c_in _ _ _).call ?_
 refine onc sP (ho_br (fun c3=>?_) (fun c3=>?_))
 ·refine onc c3 ?_
  exact no (fun e=>c3 e.f3) _
 refine onc (And.intro c3 sP) ?_
 refine(c_Term s (by omega) (by omega) r.rhs).le (LeL.same (LeL.cons (rhs_le r) LeL.nil)) ?_
 refine onc sP (ho_br (fun c4=>?_) (fun c4=>?_))
 ·refine onc c4 ?_
  exact no (fun e=>c4 e.f4) _
 have c4':=Classical.not_not.1 c4
 refine onc c4 ?_
 refine ho_lp (fun (i:Nat) v h=>(∃a b,v=[a,b,.int .i64 i,.bool false,.ref 1 0,.ref 0 0])∧h=nw (nw h0 (.cells 2 (cS s))) (.cells 6 (cR r))∧i≤r.pats.length∧∀t,t∈r.pats.take i→termOk s t∧patOk t∧lessB r.vars t=true) (fun i=>r.pats.length-i) 0 ⟨⟨_,_,rfl⟩,rfl,Nat.zero_le _,fun x hx=>by cases hx⟩ (by omega) ?_
 rintro i v h L ⟨⟨a,b,rfl⟩,rfl,hi,hm⟩ ih
 refine onc sP (ho_br (fun c5=>?_) (fun c5=>?_))
 ·have hmem:r.pats.getD i default∈r.pats:=getD_mem (by omega)
  refine onc sP ?_
  refine(c_Term s (by omega) (by omega) _).call ?_
  refine onc sP (ho_br (fun c6=>?_) (fun c6=>?_))
  ·refine onc c6 ?_
   exact no (fun e=>c6 (e.f5 _ hmem).1) _
  refine onc (And.intro c6 sP) ?_
  refine(c_Pattern _ (hpf _ hmem)).call ?_
  refine onc (And.intro c6 sP) (ho_br (fun c7=>?_) (fun c7=>?_))
  ·refine onc c7 ?_
   exact no (fun e=>c7 (e.f5 _ hmem).2.1) _
  refine onc (And.intro c7 <| And.intro c6 sP) ?_
  refine(c_small r.vars _ (hpf _ hmem)).call ?_
  refine onc (And.intro c7 <| And.intro c6 sP) (ho_br (fun c8=>?_) (fun c8=>?_))
  ·exact no (fun e=>c8 (e.f5 _ hmem).2.2) _
  refine on ?_
  exact ih (i+1) _ _ ⟨⟨_,_,rfl⟩,rfl,by omega,all_snoc (by omega) hm ⟨Classical.not_not.1 c6,Classical.not_not.1 c7,Classical.not_not.1 c8⟩⟩ (by omega)
 rw[List.take_of_length_le (by omega)] at hm
 refine onc sP ?_
 refine(c_linear r.pk r.pats (by omega) hpf (whole_few hp)).call ?_
 refine onc sP (ho_br (fun c6=>?_) (fun c6=>?_))
 ·refine onc (And.intro c6 sP) ?_
  refine(c_small r.vars r.rhs hrf).le (LeL.cons (rhs_le r) LeL.same1) ?_
  rw[dB (lessB r.vars r.rhs)]
  cases c7:lessB r.vars r.rhs with
  |true=>
   refine onc sP ?_
   refine(c_whole _ _).call ?_
   refine onc sP ?_
   rw[rhs_Sv r]
   refine onc sP ?_
   refine(c_Vars _ (whole_few hp)).call ?_
   refine onc sP ?_
   rw[rhs_Sv r]
   refine onc sP ?_
   refine(c_apart r.rhs _ hrf (whole_few hp).vars).le (LeL.cons (rhs_le r) LeL.same1) ?_
   refine on ?_
   exact fin_b (decide_eq_decide.2 ⟨fun h=>⟨c1',Classical.not_not.1 c2,Classical.not_not.1 c3,c4',hm,c6,c7,h⟩,fun h=>h.f8⟩)
  |false=>
   refine onc (And.intro @s_svS sP) ?_
   exact no (fun e=>by have:=e.f7;rw[c7] at this;cases this) _
 ·refine onc (And.intro @s_svS c6) ?_
  exact no (fun e=>c6 e.f6) _
structure progR (p:Pg):Prop where
 f1:sigOk p.sig
 f2:p.rules.length≤16
 f3:∀r,r∈p.rules→ruleR p.sig r
instance (p:Pg):Decidable (progR p):=Classical.propDecidable _
theorem c_progR (p:Pg)(hp:smallP p):Pu Tryz.prog 62 [eP p] (.bool (decide (progR p))):=by
 refine Pu.of prOk (by kernel_rfl) ⟨eP_below _,trivial⟩ ?_
 rw[t_62]
 have no:¬progR p→∀h,Ho (fin Tryz.prog (.bool (decide (progR p))) (.bool false) h):=fun hn h=>fin_b (decide_eq_false hn).symm
 refine onc sP ?_
 refine(c_Sig p.sig hp.f3).le (LeL.cons (le_sig p) LeL.nil) ?_
 refine onc sP (ho_br (fun c1=>?_) (fun c1=>?_))
 ·refine onc c1 ?_
  exact no (fun e=>c1 e.f1) _
 refine onc (And.intro c1 sP) (ho_br (fun c2=>?_) (fun c2=>?_))
 ·exact no (fun e=>by have:=e.f2;omega) _
 refine on ?_
 refine ho_lp (fun (i:Nat) v h=>(∃a b,v=[a,b,.int .i64 i,.bool false,.ref 0 0])∧h=nw h0 (.cells 3 (cP p))∧i≤p.rules.length∧∀r,r∈p.rules.take i→ruleR p.sig r) (fun i=>p.rules.length-i) 0 ⟨⟨_,_,rfl⟩,rfl,Nat.zero_le _,fun x hx=>by cases hx⟩ (by omega) ?_
 rintro i v h L ⟨⟨a,b,rfl⟩,rfl,hi,hm⟩ ih
 refine onc sP (ho_br (fun c3=>?_) (fun c3=>?_))
 ·have hmem:p.rules.getD i default∈p.rules:=getD_mem (by omega)
  refine onc sP ?_
  refine(c_ruleR p.sig _ hp.f3 (hp.f2 _ hmem)).le (LeL.cons (le_sig p) LeL.same1) ?_
  refine on (ho_br (fun c4=>?_) (fun c4=>?_))
  ·exact no (fun e=>c4 (e.f3 _ hmem)) _
  refine on ?_
  exact ih (i+1) _ _ ⟨⟨_,_,rfl⟩,rfl,by omega,all_snoc (by omega) hm (Classical.not_not.1 c4)⟩ (by omega)
 ·rw[List.take_of_length_le (by omega)] at hm
  exact fin_b (decide_eq_true ⟨Classical.not_not.1 c1,by omega,hm⟩).symm
theorem c_Prog5 (p:Pg)(hp:smallP p):Pu Tryz.prog 15 [eP p] (.bool (decide (progR p))):=by
 refine Pu.of prOk (by kernel_rfl) ⟨eP_below _,trivial⟩ ?_
 rw[t_15]
 refine onc sP ?_
 refine(c_progR p hp).call ?_
 refine on ?_
 exact fin_b rfl
end
end Go.Proofs.YtgmjpmeddajmgaaGreat
namespace Go.Proofs.YtgmjpmeddajmgaaGreat
open Go Go.Avm Go.Bvm
set_option maxRecDepth 100000
set_option linter.unusedVariables false
set_option linter.unusedSimpArgs false
set_option linter.defProp false
noncomputable section
attribute [local irreducible] jn jv br lp ck iff wB wG wRef wSl wCl wAg wTu wStr wFn wIfc wInt wCe wRe wMp wFr ad sb ml lt le eqi nei eq1 isNil un cvt fa len lens ix ixA ixS ixV ld1 ldn sto al bx pt bs ms app cpy sli lkm mup men mst mrg srg snx mnx mtr tas lenm rgT rgE finR mfind mset mput wKey wMa sV sem fin Ho
theorem t_63 (t:Tb)(h:H)(K Pn:KVH)(x0 x1 x2:AV):(compF Tryz.prog (drawsC Tryz.prog) 63).r t [x0,x1,x2] h K Pn=ck true (le x1 x0 fun v=>jv (fun v_1 h=>jv (fun v_2 h=>jv (fun v_3 h=>jv K fun k=>wB v (k v_3 h) (k (AV.bool false) h)) fun k=>wG true v (le v_1 v_2 fun v=>k v h) (k skipV h)) fun k=>wG true v (k x2 h) (k skipV h)) fun k=>wG true v (k x0 h) (k skipV h)):=by kernel_rfl
theorem t_16 (t:Tb)(h:H)(K Pn:KVH)(x0 x1:AV):(compF Tryz.prog (drawsC Tryz.prog) 16).r t [x0,x1] h K Pn=ck true (bx x0 h fun v h=>fa 0 v fun v=>fa 1 v fun v=>ld1 h v fun v=>len v fun v=>sb v (mkI 1) fun v=>(t.C 63).r [x1,mkI 0,v] h (fun v h=>K v h) Pn):=by kernel_rfl
theorem t_29 (t:Tb)(h:H)(K Pn:KVH)(x0 x1:AV):(compF Tryz.prog (drawsC Tryz.prog) 29).r t [x0,x1] h K Pn=ck true (bx x0 h fun v h=>fa 2 v fun v=>ld1 h v fun v=>len v fun v=>sb v (mkI 1) fun v=>(t.C 63).r [x1,mkI 0,v] h (fun v h=>K v h) Pn):=by kernel_rfl
theorem t_52 (t:Tb)(h:H)(K Pn:KVH)(x0 x1:AV):(compF Tryz.prog (drawsC Tryz.prog) 52).r t [x0,x1] h K Pn=ck true (bx x0 h fun v h=>jn (fun l h=>e1 l fun x=>K x h) fun k=>lp (fun L l h=>e7 l fun x x_1 x_2 x_3 x_4 x_5 x_6=>fa 2 x_5 fun v=>ld1 h v fun v=>len v fun v=>lt x_2 v fun v=>jn (fun l h=>e6 l fun x x_7 x_8 x_9 x_10 x_11=>jn (fun l h=>e7 l fun x x_12 x_13 x_14 x_15 x_16 x_17=>ad x_13 (mkI 1) fun v=>L [x,x_12,v,x_14,x_15,x_16,x_17] h) fun k=>fa 2 x_10 fun v=>ld1 h v fun v=>ix 6 v x_7 fun v=>fa 0 v fun v=>ld1 h v fun v=>eqi v x_11 fun v=>jn k fun k=>wB v (pt 0 1 x_7 [mkI 0] fun cs=>bs 1 1 1 cs h fun v_1 h=>app 1 8 x_8 v_1 h fun v_2 h=>k [v,x,x_7,v_2,x_9,x_10,x_11] h) (k [v,x,x_7,x_8,x_9,x_10,x_11] h)) fun k_1=>wB v (k_1 [v,x_2,x_3,x_4,x_5,x_6] h) (k [x_3] h)) [AV.any,AV.any,mkI 0,AV.fz Fz.nil 0 0 fun _ _=>AV.any,AV.fz Fz.nil 0 0 fun _ _=>AV.any,v,x1] h):=by kernel_rfl
theorem t_78 (t:Tb)(h:H)(K Pn:KVH)(x0:AV):(compF Tryz.prog (drawsC Tryz.prog) 78).r t [x0] h K Pn=ck true (al 3 [mkI 0,mkI 0,AV.fz Fz.nil 0 0 fun _ _=>AV.any] h fun v h=>pt 2 1 x0 [mkI 0,mkI 0,AV.fz Fz.nil 0 0 fun _ _=>AV.any] fun cs=>sto 3 h v (AV.agg 3 (nx cs)) fun h=>wRef v (fun x x_1=>ldn 3 h v fun v=>K v h) fun x x_1=>none):=by kernel_rfl
theorem c_in5 (n a b:Int):Pu Tryz.prog 63 [.int .i64 n,.int .i64 a,.int .i64 b] (.bool (decide (a≤n∧n≤b))):=by
 refine Pu.of prOk (by kernel_rfl) ⟨trivial,trivial,trivial,trivial⟩ ?_
 rw[t_63]
 refine on (ho_br (fun c=>?_) (fun c=>?_))
 ·refine onc c ?_
  exact fin_b (by simp[c])
 ·refine onc c ?_
  exact fin_b (by simp[c])
theorem c_Fun5 (p:Pg)(n:Int)(hp:smallP p):Pu Tryz.prog 16 [eP p,.int .i64 n] (.bool (decide (funIn p n))):=by
 refine Pu.of prOk (by kernel_rfl) ⟨eP_below _,trivial,trivial⟩ ?_
 have h1:=hp.f3.f2
 rw[t_16]
 refine onc sP ?_
 refine(c_in5 _ _ _).call ?_
 refine on ?_
 exact fin_b (decide_eq_decide.2 (by unfold funIn;omega))
theorem c_Rule5 (p:Pg)(n:Int)(hp:smallP p):Pu Tryz.prog 29 [eP p,.int .i64 n] (.bool (decide (ruleIn p n))):=by
 refine Pu.of prOk (by kernel_rfl) ⟨eP_below _,trivial,trivial⟩ ?_
 have h1:=hp.f1
 rw[t_29]
 refine onc sP ?_
 refine(c_in5 _ _ _).call ?_
 refine on ?_
 exact fin_b (decide_eq_decide.2 (by unfold ruleIn;omega))
theorem c_whole5 (k:Fz)(l:List Tm):Pu Tryz.prog 78 [eTs k l] (eT (.mk 0 0 k l)):=by
 refine Pu.of prOk (by kernel_rfl) ⟨trivial,trivial⟩ ?_
 rw[t_78]
 refine onc sP ?_
 refine ho_fin (Fzs.le (Fzs.of (allN_iff.2 (lt3 trivial trivial trivial))) (Le.agg (lt3 ?_ ?_ ?_)))
 ·rw[cT0];exact Le.refl _
 ·rw[cT1];exact Le.refl _
 ·rw[cT2];exact Le.refl _
theorem c_Rules5 (p:Pg)(hl:p.rules.length≤1000)(n:Int):Pu Tryz.prog 52 [eP p,.int .i64 n] (eI .auto (ofL p.rules 0 n)):=by
 refine Pu.of prOk (by kernel_rfl) ⟨eP_below _,trivial,trivial⟩ ?_
 rw[t_52]
 refine onc sP ?_
 refine ho_lp (fun (x:Nat × List Int) v h=>(∃a b c ov,v=[a,b,.int .i64 x.1,ov,c,.ref 0 0,.int .i64 n]∧Gr true 1 h ov 1 (cells cI x.2) x.2.length)∧gt h 0=.cells 3 (cP p)∧1≤h.n∧x.1≤p.rules.length∧x.2.length≤x.1∧ofL p.rules 0 n=x.2++ofL (p.rules.drop x.1) x.1 n) (fun x=>p.rules.length-x.1) (0,[]) ⟨⟨_,_,_,_,rfl,Gr.nil⟩,gt_nw h0 _,Nat.le_refl _,Nat.zero_le _,Nat.le_refl _,rfl⟩ (by show p.rules.length-0<_;omega) ?_
 rintro ⟨i,out⟩ v h L ⟨⟨a,b,c,ov,rfl,g⟩,hg,hn,hi,ho,he⟩ ih
 simp only at hi ho he g
 refine onc (And.intro hg sP) (ho_br (fun c1=>?_) (fun c1=>?_))
 ·rw[drop_cons (l:=p.rules) (i:=i) (by omega),ofL] at he
  refine onc (And.intro hg sP) (ho_br (fun c2=>?_) (fun c2=>?_))
  ·rw[if_pos c2] at he
   refine onc c2 ?_
   refine g.app1 rfl (by omega) (by omega) hn (fun v' h' g' hn' hq=>?_)
   refine on ?_
   exact ih (i+1,out++[(i:Int)]) _ _ ⟨⟨_,_,_,_,rfl,by
    show Gr true 1 h' v' 1 (cells cI (out++[(i:Int)])) (out++[(i:Int)]).length
    rw[←cells_one,List.length_append]
    exact g'⟩,(hq 0 (by omega)).trans hg,by omega,by show i+1≤_;omega,by show(out++[(i:Int)]).length≤i+1;simp;omega,by rw[List.append_assoc];exact he⟩ (by show p.rules.length-(i+1)<p.rules.length-i;omega)
  ·rw[if_neg c2] at he
   refine onc c2 ?_
   exact ih (i+1,out) _ _ ⟨⟨_,_,_,_,rfl,g⟩,hg,hn,by show i+1≤_;omega,by show out.length≤i+1;omega,he⟩ (by show p.rules.length-(i+1)<p.rules.length-i;omega)
 ·rw[List.drop_eq_nil_of_le (by omega),ofL,List.append_nil] at he
  refine on ?_
  rw[he]
  exact ho_fin (g.fz rfl rfl cI_len (by omega) (fun x _=>cI_below x))
end
end Go.Proofs.YtgmjpmeddajmgaaGreat
namespace Go.Proofs.YtgmjpmeddajmgaaGreat
open Go Go.Avm Go.Bvm
set_option maxRecDepth 100000
set_option linter.unusedVariables false
set_option linter.unusedSimpArgs false
set_option linter.defProp false
noncomputable section
attribute [local irreducible] jn jv br lp ck iff wB wG wRef wSl wCl wAg wTu wStr wFn wIfc wInt wCe wRe wMp wFr ad sb ml lt le eqi nei eq1 isNil un cvt fa len lens ix ixA ixS ixV ld1 ldn sto al bx pt bs ms app cpy sli lkm mup men mst mrg srg snx mnx mtr tas lenm rgT rgE finR mfind mset mput wKey wMa sV sem fin Ho
theorem foldl_mem:∀{l out:List Int} {x:Int},x∈l.foldl putL out↔x∈out∨x∈l
 |[],out,x=>by simp
 |y::l,out,x=>by
  rw[List.foldl_cons,foldl_mem,putL_mem,List.mem_cons]
  exact⟨fun h=>h.elim (fun h=>h.elim (fun e=>.inr (.inl e)) .inl) fun h=>.inr (.inr h),fun h=>h.elim (fun h=>.inl (.inr h)) fun h=>h.elim (fun e=>.inl (.inl e)) .inr⟩
theorem varsL_mem {b:Bool}{n x:Int}:∀{l:List Tm} {i:Nat} {out:List Int},x∈varsL b n l i out↔x∈out∨∃j,j<l.length∧x∈varsT (l.getD j default)∧¬(b=true∧i+j=1∧x=n)
 |[],i,out=>by rw[varsL];simp
 |t::r,i,out=>by
  rw[varsL,varsL_mem,foldl_mem,List.mem_filter]
  simp only[Bool.not_eq_true',Bool.and_eq_false_iff,decide_eq_false_iff_not]
  constructor
  ·rintro ((h|⟨h,h2⟩)|⟨j,h1,h2,h3⟩)
   ·exact .inl h
   ·refine .inr ⟨0,by simp,h,fun ⟨e1,e2,e3⟩=>?_⟩
    rcases h2 with(h2|h2)|h2
    ·rw[e1] at h2;cases h2
    ·exact h2 (by omega)
    ·exact h2 e3
   ·exact .inr ⟨j+1,by simp;omega,h2,fun ⟨e1,e2,e3⟩=>h3 ⟨e1,by omega,e3⟩⟩
  ·rintro (h|⟨j,h1,h2,h3⟩)
   ·exact .inl (.inl h)
   ·cases j with
    |zero=>
     refine .inl (.inr ⟨h2,?_⟩)
     by_cases e1:b=true
     ·by_cases e2:i=1
      ·exact .inr fun e3=>h3 ⟨e1,by omega,e3⟩
      ·exact .inl (.inr e2)
     ·exact .inl (.inl (by simpa using e1))
    |succ j=>exact .inr ⟨j,by simpa using h1,h2,fun ⟨e1,e2,e3⟩=>h3 ⟨e1,by omega,e3⟩⟩
theorem putL_inc:∀{l:List Int} {n:Int},l.Pairwise (·<·)→(putL l n).Pairwise (·<·)
 |[],n,_=>by simp[putL]
 |y::r,n,h=>by
  obtain⟨h1,h2⟩:=List.pairwise_cons.1 h
  rw[putL]
  split
  ·rename_i c
   refine List.pairwise_cons.2 ⟨fun z hz=>?_,putL_inc h2⟩
   rcases putL_mem.1 hz with rfl|hz
   ·exact c
   ·exact h1 z hz
  ·split
   ·exact h
   ·refine List.pairwise_cons.2 ⟨fun z hz=>?_,h⟩
    rcases List.mem_cons.1 hz with rfl|hz
    ·omega
    ·have:=h1 z hz;omega
theorem foldl_inc:∀{l out:List Int},out.Pairwise (·<·)→(l.foldl putL out).Pairwise (·<·)
 |[],_,h=>h
 |_::l,_,h=>foldl_inc (l:=l) (putL_inc h)
theorem varsL_inc {b:Bool}{n:Int}:∀{l:List Tm} {i:Nat} {out:List Int},out.Pairwise (·<·)→(varsL b n l i out).Pairwise (·<·)
 |[],_,_,h=>by rw[varsL];exact h
 |_::_,_,_,h=>by rw[varsL];exact varsL_inc (foldl_inc h)
theorem varsT_nodup (t:Tm):(varsT t).Nodup:=by
 have:(varsT t).Pairwise (·<·):=by
  rw[varsT_eq]
  split
  ·exact List.pairwise_singleton _ _
  ·exact varsL_inc List.Pairwise.nil
 exact this.imp fun h=>by omega
theorem scopeL_all {f:Int→Int}{b:Bool}{n:Int}{op:List Int}:∀{l:List Tm} {i:Nat},scopeL f b n l i op=true↔∀j,j<l.length→scopeB f (l.getD j default) (if b=true∧i+j=1 then op++[n] else op)=true
 |[],i=>by rw[scopeL_nil];simp
 |t::r,i=>by
  rw[scopeL_cons,Bool.and_eq_true,scopeL_all]
  constructor
  ·rintro ⟨h1,h2⟩ j hj
   cases j with
   |zero=>exact h1
   |succ j=>
    have:=h2 j (by simpa using hj)
    rwa [show i+1+j=i+(j+1) by omega] at this
  ·intro h
   refine⟨h 0 (by simp),fun j hj=>?_⟩
   have:=h (j+1) (by simpa using hj)
   rwa [show i+(j+1)=i+1+j by omega] at this
theorem scope_vars {f:Int→Int}(t:Tm):∀op,scopeB f t op=true↔∀n,n∈varsT t→f n=0∨n∈op:=by
 induction t using Tm.rec' with
 |h t ih=>
  intro op
  rw[scopeB_eq,varsT_eq]
  by_cases c:t.op=1
  ·rw[if_pos c,if_pos c];simp
  ·rw[if_neg c,if_neg c,scopeL_all]
   constructor
   ·intro h n hn
    rcases varsL_mem.1 hn with h0|⟨j,h1,h2,h3⟩
    ·cases h0
    ·have:=(ih _ (getD_mem h1) _).1 (h j h1) n h2
     split at this
     ·rename_i hc
      rcases this with h4|h4
      ·exact .inl h4
      ·rw[List.mem_append,List.mem_singleton] at h4
       exact h4.elim .inr fun e=>absurd ⟨hc.1,hc.2,e⟩ h3
     ·exact this
   ·intro h j hj
    refine(ih _ (getD_mem hj) _).2 fun n hn=>?_
    split
    ·rename_i hc
     by_cases e:n=t.n
     ·exact .inr (by rw[e];simp)
     ·rcases h n (varsL_mem.2 (.inr ⟨j,hj,hn,fun h=>e h.2.2⟩)) with h4|h4
      ·exact .inl h4
      ·exact .inr (List.mem_append_left _ h4)
    ·rename_i hc
     exact h n (varsL_mem.2 (.inr ⟨j,hj,hn,fun h=>hc ⟨h.1,h.2.1⟩⟩))
theorem occ_flat {q x:Int}{l:List Tm}:x∈occ q (l.flatMap po)↔∃t,t∈l∧x∈occ q (po t):=by
 induction l with
 |nil=>simp[occ]
 |cons a r ih=>
  rw[List.flatMap_cons,occ_app,List.mem_append,ih]
  simp only[List.mem_cons]
  exact⟨fun h=>h.elim (fun h=>⟨a,.inl rfl,h⟩) fun ⟨t,h1,h2⟩=>⟨t,.inr h1,h2⟩,fun ⟨t,h1,h2⟩=>h1.elim (fun e=>.inl (e▸h2)) fun h1=>.inr ⟨t,h1,h2⟩⟩
theorem occ_cons {q:Int}{t:Tm}{l:List Tm}:occ q (t::l)=(if t.op=q then[t.n] else[])++occ q l:=by
 unfold occ
 by_cases c:t.op=q
 ·rw[if_pos c,List.filter_cons_of_pos (by simpa using c)];rfl
 ·rw[if_neg c,List.filter_cons_of_neg (by simpa using c)];rfl
theorem lets_occ (t:Tm):letsT t=occ 8 (po t):=by
 induction t using Tm.rec' with
 |h t ih=>
  rw[letsT_eq,po_eq,occ_cons]
  congr 1
  have key:∀(l:List Tm),(∀t,t∈l→letsT t=occ 8 (po t))→letsL l=occ 8 (l.flatMap po):=by
   intro l
   induction l with
   |nil=>intro _;rw[letsL];rfl
   |cons a r ihr=>intro h;rw[letsL,List.flatMap_cons,occ_app,h a List.mem_cons_self,ihr fun t ht=>h t (List.mem_cons_of_mem _ ht)]
  exact key _ ih
theorem vars_occ (t:Tm)(hb:allN' (fun x=>x.op=1→x.kids=[]) t)(hs:allN' (fun x=>x.op=1∨x.op=3) t)(x:Int):x∈varsT t↔x∈occ 1 (po t):=by
 induction t using Tm.rec' with
 |h t ih=>
  obtain⟨hb1,hb2⟩:=allN'_eq.1 hb
  obtain⟨hs1,hs2⟩:=allN'_eq.1 hs
  rw[varsT_eq,po_eq,occ_cons]
  by_cases c:t.op=1
  ·rw[if_pos c,if_pos c,hb1 c];simp[occ]
  ·rw[if_neg c,if_neg c,List.nil_append,occ_flat,varsL_mem]
   have c8:¬t.op=8:=by have:=hs1.resolve_left c;omega
   constructor
   ·rintro (h|⟨j,h1,h2,_⟩)
    ·cases h
    ·have hm:=getD_mem (l:=t.kids) h1
     exact⟨_,hm,(ih _ hm (hb2 _ hm) (hs2 _ hm)).1 h2⟩
   ·rintro ⟨k,hk,hx⟩
    obtain⟨j,hj,rfl⟩:=List.getElem_of_mem hk
    refine .inr ⟨j,hj,?_,fun h=>c8 (of_decide_eq_true h.1)⟩
    rw[List.getD_eq_getElem?_getD,List.getElem?_eq_getElem hj]
    exact(ih _ hk (hb2 _ hk) (hs2 _ hk)).2 hx
theorem pRun:∀(L:List (Tm × Int)) (ms:List Int),(runL pStep ms L).2=true→ms.Nodup→(ms++occ 1 (L.map Prod.fst)).Nodup
 |[],ms,_,h=>by simpa[occ] using h
 |x::r,ms,h,hm=>by
  rw[runL] at h
  by_cases c:(pStep ms x).2=true
  ·rw[if_pos c] at h
   rw[List.map_cons,occ_cons]
   unfold pStep at c h
   by_cases c1:x.1.op=1
   ·rw[if_pos c1] at c h
    by_cases c2:x.1.n∈ms
    ·rw[if_pos c2] at c;cases c
    ·rw[if_neg c2] at h
     have hn:(ms++[x.1.n]).Nodup:=by
      have:=ins_nodup (k:=x.1.n) hm
      unfold ins at this
      rwa [if_neg c2] at this
     have:=pRun r _ h hn
     rw[if_pos c1,←List.append_assoc]
     exact this
   ·rw[if_neg c1] at c h
    by_cases c3:x.1.op=3
    ·rw[if_pos c3] at h
     rw[if_neg c1]
     exact pRun r ms h hm
    ·rw[if_neg c3] at c;cases c
  ·rw[if_neg c] at h;cases h
theorem pat_nodup {s:Sg}{t:Tm}(h:termOk s t)(hp:patOk t):(occ 1 (po t)).Nodup:=by
 have:=pRun (pre t 1) [] (by rw[patP h];exact decide_eq_true hp) List.nodup_nil
 simpa[po] using this
theorem nd_len:∀{V O:List Int},V.Nodup→(∀x,x∈V→x∈O)→V.length≤O.length
 |[],_,_,_=>Nat.zero_le _
 |a::r,O,hV,h=>by
  obtain⟨h1,h2⟩:=List.nodup_cons.1 hV
  have ha:=h a List.mem_cons_self
  have:=nd_len (O:=O.erase a) h2 fun x hx=>(List.mem_erase_of_ne (fun e=>h1 (by rw[←e];exact hx))).2 (h x (List.mem_cons_of_mem _ hx))
  rw[List.length_erase_of_mem ha] at this
  have:=List.length_pos_of_mem ha
  rw[List.length_cons]
  omega
theorem nodup_count:∀{O:List Int},O.Nodup↔∀n,n∈O→O.count n≤1
 |[]=>by simp
 |a::r=>by
  rw[List.nodup_cons,nodup_count]
  constructor
  ·rintro ⟨h1,h2⟩ n hn
   rw[List.count_cons]
   by_cases e:a=n
   ·subst e
    rw[List.count_eq_zero.2 h1];simp
   ·have:(a==n)=false:=by simpa using e
    rw[this]
    have:=h2 n ((List.mem_cons.1 hn).resolve_left fun e'=>e e'.symm)
    simpa using this
  ·intro h
   refine⟨fun ha=>?_,fun n hn=>?_⟩
   ·have:=h a List.mem_cons_self
    rw[List.count_cons_self] at this
    have:=List.count_pos_iff.2 ha
    omega
   ·have:=h n (List.mem_cons_of_mem _ hn)
    rw[List.count_cons] at this
    omega
theorem len_count {V O:List Int}(hV:V.Nodup)(h:∀x,x∈V↔x∈O):O.length=V.length↔∀n,n∈O→O.count n≤1:=by
 have h1:=nd_len hV fun x hx=>(h x).1 hx
 constructor
 ·intro he n hn
  rcases Nat.lt_or_ge 1 (O.count n) with hc|hc
  ·exfalso
   have h2:∀x,x∈V→x∈O.erase n:=fun x hx=>by
    by_cases e:x=n
    ·subst e
     refine List.count_pos_iff.1 ?_
     rw[List.count_erase_self];omega
    ·exact(List.mem_erase_of_ne e).2 ((h x).1 hx)
   have:=nd_len hV h2
   rw[List.length_erase_of_mem hn] at this
   have:=List.length_pos_of_mem hn
   omega
  ·exact hc
 ·intro hc
  have:=nd_len (nodup_count.2 hc) fun x hx=>(h x).2 hx
  omega
theorem whole_vars {k:Fz}{l:List Tm}{x:Int}:x∈varsT (whole k l)↔∃t,t∈l∧x∈varsT t:=by
 rw[varsT_eq,if_neg (by show ¬(0:Int)=1;omega)]
 show x∈varsL (decide ((0:Int)=8)) 0 l 0 []↔_
 rw[varsL_mem]
 constructor
 ·rintro (h|⟨j,h1,h2,_⟩)
  ·cases h
  ·exact⟨_,getD_mem h1,h2⟩
 ·rintro ⟨t,ht,hx⟩
  obtain⟨j,hj,rfl⟩:=List.getElem_of_mem ht
  refine .inr ⟨j,hj,?_,fun h=>absurd (of_decide_eq_true h.1) (by omega)⟩
  rw[List.getD_eq_getElem?_getD,List.getElem?_eq_getElem hj]
  exact hx
theorem lessB_all {m:Int}{t:Tm}:lessB m t=true↔allN' (fun x=>(x.op=1∨x.op=8)→x.n<m) t:=by
 induction t using Tm.rec' with
 |h t ih=>
  rw[allN'_eq,lessB_eq,lessBs_all,Bool.and_eq_true,List.all_eq_true,Bool.or_eq_true,decide_eq_true_eq,decide_eq_true_eq]
  constructor
  ·rintro ⟨h1,h2⟩
   exact⟨fun h=>h2.resolve_left fun e=>h.elim e.1 e.2,fun k hk=>(ih k hk).1 (h1 k hk)⟩
  ·rintro ⟨h1,h2⟩
   refine⟨fun k hk=>(ih k hk).2 (h2 k hk),?_⟩
   by_cases c:t.op=1∨t.op=8
   ·exact .inr (h1 c)
   ·exact .inl ⟨fun e=>c (.inl e),fun e=>c (.inr e)⟩
theorem lessB_occ {m:Int}{t:Tm}:lessB m t=true↔(∀n,n∈occ 1 (po t)→n<m)∧(∀n,n∈occ 8 (po t)→n<m):=by
 rw[lessB_all]
 unfold allN' occ po
 simp only[List.mem_map,List.mem_filter,decide_eq_true_eq]
 constructor
 ·intro h
  exact⟨fun n ⟨x,⟨h1,h2⟩,e⟩=>e▸h x h1 (.inl h2),fun n ⟨x,⟨h1,h2⟩,e⟩=>e▸h x h1 (.inr h2)⟩
 ·rintro ⟨h1,h2⟩ x hx h
  exact h.elim (fun e=>h1 _ ⟨x,⟨hx,e⟩,rfl⟩) fun e=>h2 _ ⟨x,⟨hx,e⟩,rfl⟩
theorem shape_no8 {t:Tm}(h:allN' (fun x=>x.op=1∨x.op=3) t){n:Int}:n∉occ 8 (po t):=by
 intro hn
 obtain⟨x,hx,_⟩:=List.mem_map.1 hn
 obtain⟨h1,h2⟩:=List.mem_filter.1 hx
 have:=h x h1
 have:=of_decide_eq_true h2
 omega
theorem pats_vars {s:Sg}{l:List Tm}{k:Fz}(h:∀t,t∈l→termOk s t∧patOk t)(x:Int):x∈varsT (whole k l)↔x∈occ 1 (l.flatMap po):=by
 rw[whole_vars,occ_flat]
 exact⟨fun ⟨t,ht,hx⟩=>⟨t,ht,(vars_occ t (h t ht).1.bare (shapeB_all.1 (h t ht).2.f2) x).1 hx⟩,fun ⟨t,ht,hx⟩=>⟨t,ht,(vars_occ t (h t ht).1.bare (shapeB_all.1 (h t ht).2.f2) x).2 hx⟩⟩
theorem sumV_occ {s:Sg}:∀{l:List Tm},(∀t,t∈l→termOk s t∧patOk t)→sumV l=(occ 1 (l.flatMap po)).length
 |[],_=>by simp[sumV,occ]
 |t::r,h=>by
  obtain⟨h1,h2⟩:=h t List.mem_cons_self
  have h3:=vars_occ t h1.bare (shapeB_all.1 h2.f2)
  rw[sumV,List.flatMap_cons,occ_app,List.length_append,sumV_occ fun s hs=>h s (List.mem_cons_of_mem _ hs),(len_count (varsT_nodup t) h3).2 (nodup_count.1 (pat_nodup h1 h2))]
theorem rule_eq (s:Sg)(r:Rl):ruleP s r↔ruleR s r:=by
 constructor
 ·intro h
  have hpv:=pats_vars (k:=r.pk) h.f6
  refine⟨⟨h.f1,by have:=h.f2;omega⟩,h.f3,⟨h.f4,h.f5⟩,h.f7,fun t ht=>⟨(h.f6 t ht).1,(h.f6 t ht).2,lessB_occ.2 ⟨fun n hn=>(h.f8 n (occ_flat.2 ⟨t,ht,hn⟩)).2,fun n hn=>absurd hn (shape_no8 (shapeB_all.1 (h.f6 t ht).2.f2))⟩⟩,?_,lessB_occ.2 ⟨h.f9,fun n hn=>(h.fa n hn).2.1⟩,?_⟩
  ·rw[sumV_occ h.f6]
   exact(len_count (varsT_nodup _) hpv).2 fun n hn=>(h.f8 n hn).1
  ·intro n hn
   have hn':=hn
   rw[lets_occ] at hn' ⊢
   obtain⟨h1,h2,h3⟩:=h.fa n hn'
   refine⟨h1,fun hv=>?_,fun hv=>?_⟩
   ·exact List.count_eq_zero.1 h3 ((hpv n).1 hv)
   ·have:=(scope_vars r.rhs []).1 h.fb n hv
    rcases this with h4|h4
    ·have:(occ 8 (po r.rhs)).count n=0:=by exact_mod_cast h4
     exact List.count_eq_zero.1 this hn'
    ·cases h4
 ·intro h
  have h6:∀t,t∈r.pats→termOk s t∧patOk t:=fun t ht=>⟨(h.f5 t ht).1,(h.f5 t ht).2.1⟩
  have hpv:=pats_vars (k:=r.pk) h6
  have h7:=lessB_occ.1 h.f7
  have hc:=h.f6
  rw[sumV_occ h6] at hc
  have hc:=(len_count (varsT_nodup _) hpv).1 hc
  refine⟨h.f1.1,by have:=h.f1.2;omega,h.f2,h.f3.1,h.f3.2,h6,h.f4,fun n hn=>⟨hc n hn,?_⟩,h7.1,fun n hn=>?_,?_⟩
  ·obtain⟨t,ht,hx⟩:=occ_flat.1 hn
   exact(lessB_occ.1 (h.f5 t ht).2.2).1 n hx
  ·obtain⟨h1,h2,h3⟩:=h.f8 n (by rw[lets_occ];exact hn)
   rw[lets_occ] at h1
   exact⟨h1,h7.2 n hn,List.count_eq_zero.2 fun hx=>h2 ((hpv n).2 hx)⟩
  ·refine(scope_vars r.rhs []).2 fun n hn=>.inl ?_
   have:(occ 8 (po r.rhs)).count n=0:=List.count_eq_zero.2 fun hx=>(h.f8 n (by rw[lets_occ];exact hx)).2.2 hn
   rw[this];rfl
theorem prog_eq (p:Pg):progP p↔progR p:=
 ⟨fun h=>⟨h.f2,h.f1,fun r hr=>(rule_eq _ r).1 (h.f3 r hr)⟩,fun h=>⟨h.f2,h.f1,fun r hr=>(rule_eq _ r).2 (h.f3 r hr)⟩⟩
end
end Go.Proofs.YtgmjpmeddajmgaaGreat
namespace Go.Proofs.YtgmjpmeddajmgaaGreat
open Go Go.Avm Go.Bvm
set_option maxRecDepth 100000
set_option linter.unusedVariables false
set_option linter.unusedSimpArgs false
set_option linter.defProp false
noncomputable section
attribute [local irreducible] jn jv br lp ck iff wB wG wRef wSl wCl wAg wTu wStr wFn wIfc wInt wCe wRe wMp wFr ad sb ml lt le eqi nei eq1 isNil un cvt fa len lens ix ixA ixS ixV ld1 ldn sto al bx pt bs ms app cpy sli lkm mup men mst mrg srg snx mnx mtr tas lenm rgT rgE finR mfind mset mput wKey wMa sV sem fin Ho
theorem le_fzM {α:Type}[Inhabited α]{k:Fz}{n:Nat}{enc:α→Nat→AV}{e:α→LA}{l:List α}(he:∀a j,j<n→enc a j=nx (e a) j):Le (.fz k n l.length fun i=>enc (l.getD i default)) (fzM k n e l):=
 Le.fz rfl fun i j hi hj=>by rw[map_getD hi,he _ _ hj]
def tmOf (x:Int × Int × (Fz × List Tm) × Unit):Tm:=.mk x.1 x.2.1 x.2.2.1.1 x.2.2.1.2
theorem rea_termB (B:Nat):ReaB B Tryz.prog 57 3 (fun _:Tm=>True) (fun t=>nx (cT t))∧ReaB (B+1) Tryz.prog 57 3 (fun _:Tm=>True) (fun t=>nx (cT t)):=by
 induction B with
 |zero=>
  refine⟨fun _ _ _ _ _ _ h=>absurd h (by omega),fun H en W fuel cs x hf hx=>?_⟩
  obtain⟨_,m,h,_⟩:=DataW.trod_struct Tryz.underlying57 hx
  omega
 |succ B ih=>
  refine⟨ih.2,?_⟩
  have hs:=rdB_slice Tryz.underlying45 (by kernel_rfl) (by omega) ih.1
  have h:=rdB_struct (n:=3) Tryz.underlying57 (by kernel_rfl) (rdFB_cons rfl (m:=1) (by kernel_rfl) (rd_int Tryz.underlying55).toB (rdFB_cons rfl (m:=1) (by kernel_rfl) (rd_int Tryz.underlying3).toB (rdFB_cons rfl (m:=1) (by kernel_rfl) hs rdFB_nil)))
  refine h.map tmOf (fun _ _=>trivial) (fun x=>lt3 ?_ ?_ ?_)
  ·rw[cT0];exact Le.refl _
  ·rw[cT1];exact Le.refl _
  ·rw[cT2];exact le_fzM (enc:=fun t=>nx (cT t)) fun _ _ _=>rfl
theorem rea_term:Rea Tryz.prog 57 3 (fun _:Tm=>True) (fun t=>nx (cT t)):=.ofB fun B=>(rea_termB B).1
theorem rea_terms:Rea Tryz.prog 45 1 (fun _:Fz × List Tm=>True) (fun x _=>eTs x.1 x.2):=
 Rea.mapL (rd_slice Tryz.underlying45 (by kernel_rfl) (by omega) rea_term) id (fun _ _=>trivial) (fun x j hj=>le_fzM (enc:=fun t=>nx (cT t)) fun _ _ _=>rfl)
theorem rea_name:Rea Tryz.prog 112 2 (fun _:Nm=>True) (fun x=>nx (cN x)):=by
 have h:=rd_struct (n:=2) Tryz.underlying112 (by kernel_rfl) (rdF_cons rfl (m:=1) (by kernel_rfl) (rd_string Tryz.underlying9) (rdF_cons rfl (m:=1) (by kernel_rfl) (rd_int Tryz.underlying3) rdF_nil))
 exact h.map (fun x=>⟨x.1,x.2.1⟩) (fun _ _=>trivial) (fun x j hj=>match j,hj with|0,_=>rfl|1,_=>rfl)
theorem rea_names:Rea Tryz.prog 22 1 (fun _:Fz × List Nm=>True) (fun x _=>eNs x.1 x.2):=
 Rea.mapL (rd_slice Tryz.underlying22 (by kernel_rfl) (by omega) rea_name) id (fun _ _=>trivial) (fun x j hj=>le_fzM (enc:=fun t=>nx (cN t)) fun _ _ _=>rfl)
theorem rea_sig:Rea Tryz.prog 24 2 (fun _:Sg=>True) (fun x=>nx (cS x)):=by
 have h:=rd_struct (n:=2) Tryz.underlying24 (by kernel_rfl) (rdF_cons rfl (m:=1) (by kernel_rfl) rea_names (rdF_cons rfl (m:=1) (by kernel_rfl) rea_names rdF_nil))
 exact h.map (fun x=>⟨x.1.2,x.2.1.2,x.1.1,x.2.1.1⟩) (fun _ _=>trivial) (fun x j hj=>match j,hj with|0,_=>rfl|1,_=>rfl)
theorem lt6 {Q:Nat→Prop}(h0:Q 0)(h1:Q 1)(h2:Q 2)(h3:Q 3)(h4:Q 4)(h5:Q 5):∀j,j<6→Q j
 |0,_=>h0
 |1,_=>h1
 |2,_=>h2
 |3,_=>h3
 |4,_=>h4
 |5,_=>h5
theorem rea_rule:Rea Tryz.prog 59 6 (fun _:Rl=>True) (fun x=>nx (cR x)):=by
 have h:=rd_struct (n:=6) Tryz.underlying59 (by kernel_rfl) (rdF_cons rfl (m:=1) (by kernel_rfl) (rd_int Tryz.underlying3) (rdF_cons rfl (m:=1) (by kernel_rfl) rea_terms (rdF_cons rfl (m:=3) (by kernel_rfl) rea_term (rdF_cons rfl (m:=1) (by kernel_rfl) (rd_int Tryz.underlying3) rdF_nil))))
 refine h.mapL (fun x=>⟨x.1,x.2.1.2,x.2.1.1,x.2.2.1,x.2.2.2.1⟩) (fun _ _=>trivial) (fun x=>lt6 (Le.refl _) (Le.refl _) ?_ ?_ ?_ (Le.refl _))
 ·show Le (nx (cT x.2.2.1) 0) _;rw[cT0];exact Le.refl _
 ·show Le (nx (cT x.2.2.1) 1) _;rw[cT1];exact Le.refl _
 ·show Le (nx (cT x.2.2.1) 2) _;rw[cT2];exact Le.refl _
theorem rea_rules:Rea Tryz.prog 25 1 (fun _:Fz × List Rl=>True) (fun x _=>fzM x.1 6 cR x.2):=
 Rea.mapL (rd_slice Tryz.underlying25 (by kernel_rfl) (by omega) rea_rule) id (fun _ _=>trivial) (fun x j hj=>le_fzM (enc:=fun t=>nx (cR t)) fun _ _ _=>rfl)
theorem rea_prog:Rea Tryz.prog 27 3 (fun _:Pg=>True) (fun x=>nx (cP x)):=by
 have h:=rd_struct (n:=3) Tryz.underlying27 (by kernel_rfl) (rdF_cons rfl (m:=2) (by kernel_rfl) rea_sig (rdF_cons rfl (m:=1) (by kernel_rfl) rea_rules rdF_nil))
 exact h.map (fun x=>⟨x.1,x.2.1.2,x.2.1.1⟩) (fun _ _=>trivial) (fun x=>lt3 rfl rfl rfl)
theorem arg_pg:Arg Tryz.prog 27 (fun _:Pg=>True) eP:=arg_struct Tryz.underlying27 rea_prog
def encI (n:Int):AV:=.int .i64 n
theorem arg_int1:Arg Tryz.prog 3 (fun _:Int=>True) encI:=(arg_int Tryz.underlying3 (rd_int Tryz.underlying3)).le id (fun _ _=>trivial) fun _=>Le.refl _
end
end Go.Proofs.YtgmjpmeddajmgaaGreat
