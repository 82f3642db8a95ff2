/- Part 5 of the proof: lemmas. -/
import Derived.Test.YtbdagmhndndliaaDoorM4
namespace Go.Avm.Pack
open Go Go.Avm Go.Proofs
open Go.IntKind (i64 u64)
open Go.Avm.AV (int bool any fz fp sl ow ref fn ifc val agg tup)
open Go.Avm.AObj (cells dead)
open Go.Avm.Oc (ret)
set_option maxRecDepth 4000
theorem jG (R:Res)(v:Nat->Int)(n:Int)(x:Int)(h:0<=n/\n<=24)(g:R.σ):Does Tryd.prog R 76 [.ref 0 2,.int .i64 n,.int .i64 x] [cO 27 (aH v)] g (.ret (.int .u64 (aD v x n.toNat))) [cO 27 (aH v)] g:=by
 obtain⟨n,rfl⟩:∃m:Nat,n=m:=⟨n.toNat,omg⟩
 rw[Int.toNat_natCast]
 refine spW (nt:=26) (rs:=[.tmp 6]) (k0:=1) ?_
 refine vcR [] (lkL [(0,[0,1,2]),(1,[0,1,2,7]),(2,[0,2,7,9,10])]) (fun _=>[]) (fun (Q:AEx->St R.σ->Prop)=>WpC Tryd.prog R 26 1 76 [1,1,0,1,0] Q [Kont.blk 0,Kont.seq [1,1,1]] (St.mk [(0,ref 0 2),(2,i6 x),(7,int u64 0),(9,i6 (↑n:Int)),(10,i6 0)] [cO 27 (aH v)] g)) (?_)
 refine(a8 krf (fun (k:Nat)=>⟨[(0,ref 0 2),(2,i6 x),(7,.int .u64 (aD v x k)),(9,i6 (n:Int)),(10,.int .i64 k)],[cO 27 (aH v)],g⟩) (fun (k:Nat)=>(k<=n)) (fun (k:Nat)=>(n-k)) 0 (aO ⟨Af _,Af _,(Ag krf),Af _,(Ag krf),trivial⟩ rfl rfl) ?_ (fun k hi=>?_))
 ·omega
 ·refine vcR [] (lkL [(3,[0,2,7,9,10,11]),(4,[0,2,7,8,9,10]),(5,[0,2,7,8,9,10,19]),(6,[0,2,7,9,10]),(7,[0,2,7,9,10])]) (lkL [(5,[(4,ROrc.kop (i6 (v k)))]),(6,[(2,ROrc.pcall (int u64 (↑(2^k):Int)))])]) (fun Q=>(fun (u1:Int)=>(fun (u2:Int)=>(fun (u3:List AObj)=>(fun (u4:Int)=>(decide (u1<u2)=true->(0<=u1/\u1<(↑24:Int))/\OpOk Tryd.prog R (Oper.mk (some 17) (Op.load 43 (Operand.tmp 16)) 43 "table.go:67" #[Edge.mk 3 Ground.data] none) (evO [Row.mk (some 16) none (ref 0 (k+2)) false (some []) [],Row.mk (some 15) none (ref 0 2) false (some []) [],Row.mk (some 14) none (i6 u1) false (some []) [],Row.mk (some 13) none (ref 0 2) false (some []) []] [(0,ref 0 2),(2,i6 x),(7,int u64 u4),(8,i6 u1),(9,i6 u2),(10,i6 u1)] []) u3 g (i6 (v k)) u3 g/\((v k==x)=true->(∀(hp:List AObj) (g:R.σ),true=true/\Does Tryd.prog R 79 [i6 u1] hp g (ret (int u64 (↑(2^k):Int))) hp g)/\(-9223372036854775808<=u1+1/\u1+1<=9223372036854775807)/\Q AEx.normal (St.mk [(0,ref 0 2),(2,i6 x),(7,int u64 (IntKind.wrap u64 (↑(BitVec.toNat (BitVec.ofInt 64 u4|||BitVec.ofInt 64 (↑(2^k):Int))):Int))),(9,i6 u2),(10,i6 (u1+1))] u3 g))/\((v k==x)=false->(-9223372036854775808<=u1+1/\u1+1<=9223372036854775807)/\Q AEx.normal (St.mk [(0,ref 0 2),(2,i6 x),(7,int u64 u4),(9,i6 u2),(10,i6 (u1+1))] u3 g)))/\(decide (u1<u2)=false->Q (AEx.exit 0) (St.mk [(0,ref 0 2),(2,i6 x),(7,int u64 u4),(9,i6 u2),(10,i6 u1),(11,AV.bool (decide (u1<u2)))] u3 g))) ((↑(aD v x k):Int))) ([cO 27 (aH v)])) ((↑n:Int))) ((↑k:Int))) ⟨fun c1=>have c1:(↑k:Int)<(↑n:Int):=(of_decide_eq_true c1);⟨omg,?_,fun c2=>have c2:v k=x:=(beq_iff_eq.mp c2);⟨(fun _ _=>⟨rfl,(gz _ _ omg _ _)⟩),omg,?_⟩,fun c2=>have c2:¬v k=x:=(beq_eq_false_iff_ne.mp c2);⟨omg,?_⟩⟩,fun c1=>have c1:¬(↑k:Int)<(↑n:Int):=(of_decide_eq_false c1);?_⟩
  ·exact fh rfl rfl krf rfl (by show _+1<=27;omega) (nM omg omg)
  ·refine(aQ (k+1) (aO ⟨Af _,Af _,(Ag ?_),Af _,(Ag krf),trivial⟩ rfl rfl) ?_ ?_)
   ·show AV.int .u64 _=AV.int .u64 _
    congr 1
    rw[ip,if_pos c2]
    exact Tb.u64_or (bT (Nat.lt_of_lt_of_le (kU v x k) (Nat.pow_le_pow_right dcd omg))) (bT (Nat.pow_lt_pow_right dcd omg))
   ·omega
   ·omega
  ·refine(aQ (k+1) (aO ⟨Af _,Af _,(Ag ?_),Af _,(Ag krf),trivial⟩ rfl rfl) ?_ ?_)
   ·show AV.int .u64 _=AV.int .u64 _
    rw[ip,if_neg c2]
   ·omega
   ·omega
  ·have hk:k=n:=by omega
   subst hk
   refine⟨_,Ar _,vcR [] (lkL [(8,[6])]) (fun _=>[]) (fun (Q:AEx->St R.σ->Prop)=>Q AEx.ret (St.mk [(6,int u64 (↑(aD v x k):Int))] [cO 27 (aH v)] g)) (?_)⟩
   refine(aq (aR _ _ rfl trivial rfl rfl rfl) (Af _))
def stF (p:Prg)(most:Nat):List Int->Nat->List Nat->List Nat
 |[],s,out=>if out.length=most then out else if fol p.rules.l s=s then out++[s] else out
 |a::r,s,out=>if out.length=most then out else stF p most r (s|||2^a.toNat) (stF p most r s out)
theorem yV {p:Prg}{most:Nat}{r:List Int}{s:Nat}{out:List Nat}(h:out.length=most):stF p most r s out=out:=by
 cases r with
 |nil=>exact if_pos h
 |cons a r=>exact if_pos h
theorem dV {p:Prg}{most:Nat}:∀{r:List Int} {s:Nat} {out:List Nat},out.length<=most->out.length<=(stF p most r s out).length/\(stF p most r s out).length<=most/\((stF p most r s out).length=out.length->stF p most r s out=out)
 |[],s,out,h=>by
  show out.length<=(if out.length=most then out else if fol p.rules.l s=s then out++[s] else out).length/\_
  show _/\(if out.length=most then out else if fol p.rules.l s=s then out++[s] else out).length<=most/\((if out.length=most then out else if fol p.rules.l s=s then out++[s] else out).length=out.length->(if out.length=most then out else if fol p.rules.l s=s then out++[s] else out)=out)
  split
  ·exact⟨Nat.le_refl _,h,fun _=>rfl⟩
  ·split
   ·rw[List.length_append,List.length_singleton]
    exact⟨omg,omg,fun h=>omg⟩
   ·exact⟨Nat.le_refl _,h,fun _=>rfl⟩
 |a::r,s,out,h=>by
  obtain⟨a1,a2,a3⟩:=dV (p:=p) (most:=most) (r:=r) (s:=s) (out:=out) h
  obtain⟨b1,b2,b3⟩:=dV (p:=p) (most:=most) (r:=r) (s:=s|||2^a.toNat) (out:=stF p most r s out) a2
  show out.length<=(if out.length=most then out else stF p most r (s|||2^a.toNat) (stF p most r s out)).length/\(if out.length=most then out else stF p most r (s|||2^a.toNat) (stF p most r s out)).length<=most/\((if out.length=most then out else stF p most r (s|||2^a.toNat) (stF p most r s out)).length=out.length->(if out.length=most then out else stF p most r (s|||2^a.toNat) (stF p most r s out))=out)
  split
  ·exact⟨Nat.le_refl _,h,fun _=>rfl⟩
  ·exact⟨omg,b2,fun h=>by
    have h1:=a3 omg
    rw[h1] at b3 b1 h ⊢
    exact b3 h⟩
theorem yW {p:Prg}{most:Nat}{r:List Int}{s:Nat}{out:List Nat}(h:out.length<=most)(h0:out≠[]):stF p most r s out≠[]:=fun e=>by
 have:=(dV (p:=p) (r:=r) (s:=s) h).1
 rw[e] at this
 exact h0 (List.length_eq_zero_iff.1 (Nat.le_zero.1 this))
structure FromC (p:Prg)(most:Nat)(O:KL Int)(r:List Int)(k:Int):Prop where
 nn:∀(R:Res) [Tab LT R] (s:Nat) (g:R.σ),s<2^24->stF p most r s []=[]->Does Tryd.prog R 78 [.int .i64 k,.int .u64 s,.ref 0 0,.ref 1 0,.ref 2 0,.ref 3 0,.ref 4 0] [cO 1 (fun _=>.fz .nil 0 0 (fun _ _=>.any)),cO 1 (fun _=>.int .i64 most),cO 1 (fun _=>aj O),cO 1 (fun _=>.fn 78 0 (nth []) 5 (nth [.ref 0 0,.ref 1 0,.ref 2 0,.ref 3 0,.ref 4 0])),cO 2 (nth [.int .i64 p.atoms,ae p.rules])] g (.ret (.tup 0 (nth []))) [cO 1 (fun _=>.fz .nil 0 0 (fun _ _=>.any)),cO 1 (fun _=>.int .i64 most),cO 1 (fun _=>aj O),cO 1 (fun _=>.fn 78 0 (nth []) 5 (nth [.ref 0 0,.ref 1 0,.ref 2 0,.ref 3 0,.ref 4 0])),cO 2 (nth [.int .i64 p.atoms,ae p.rules])] g
 nw:∀(R:Res) [Tab LT R] (s m:Nat) (L:List Nat) (g:R.σ),s<2^24->stF p most r s []=L->L≠[]->m=L.length->Does Tryd.prog R 78 [.int .i64 k,.int .u64 s,.ref 0 0,.ref 1 0,.ref 2 0,.ref 3 0,.ref 4 0] [cO 1 (fun _=>.fz .nil 0 0 (fun _ _=>.any)),cO 1 (fun _=>.int .i64 most),cO 1 (fun _=>aj O),cO 1 (fun _=>.fn 78 0 (nth []) 5 (nth [.ref 0 0,.ref 1 0,.ref 2 0,.ref 3 0,.ref 4 0])),cO 2 (nth [.int .i64 p.atoms,ae p.rules])] g (.ret (.tup 0 (nth []))) [cO 1 (fun _=>.ow true 5 m 1),cO 1 (fun _=>.int .i64 most),cO 1 (fun _=>aj O),cO 1 (fun _=>.fn 78 0 (nth []) 5 (nth [.ref 0 0,.ref 1 0,.ref 2 0,.ref 3 0,.ref 4 0])),cO 2 (nth [.int .i64 p.atoms,ae p.rules]),cO (m*1) (aM L)] g
 on:∀(R:Res) [Tab LT R] (s m:Nat) (L:List Nat) (g:R.σ),s<2^24->L≠[]->m=L.length->m<=most->stF p most r s L=L->Does Tryd.prog R 78 [.int .i64 k,.int .u64 s,.ref 0 0,.ref 1 0,.ref 2 0,.ref 3 0,.ref 4 0] [cO 1 (fun _=>.ow true 5 m 1),cO 1 (fun _=>.int .i64 most),cO 1 (fun _=>aj O),cO 1 (fun _=>.fn 78 0 (nth []) 5 (nth [.ref 0 0,.ref 1 0,.ref 2 0,.ref 3 0,.ref 4 0])),cO 2 (nth [.int .i64 p.atoms,ae p.rules]),cO (m*1) (aM L)] g (.ret (.tup 0 (nth []))) [cO 1 (fun _=>.ow true 5 m 1),cO 1 (fun _=>.int .i64 most),cO 1 (fun _=>aj O),cO 1 (fun _=>.fn 78 0 (nth []) 5 (nth [.ref 0 0,.ref 1 0,.ref 2 0,.ref 3 0,.ref 4 0])),cO 2 (nth [.int .i64 p.atoms,ae p.rules]),cO (m*1) (aM L)] g
 ow:∀(R:Res) [Tab LT R] (s m m':Nat) (L L':List Nat) (g:R.σ),s<2^24->L≠[]->m=L.length->m<=most->stF p most r s L=L'->m'=L'.length->m≠m'->Does Tryd.prog R 78 [.int .i64 k,.int .u64 s,.ref 0 0,.ref 1 0,.ref 2 0,.ref 3 0,.ref 4 0] [cO 1 (fun _=>.ow true 5 m 1),cO 1 (fun _=>.int .i64 most),cO 1 (fun _=>aj O),cO 1 (fun _=>.fn 78 0 (nth []) 5 (nth [.ref 0 0,.ref 1 0,.ref 2 0,.ref 3 0,.ref 4 0])),cO 2 (nth [.int .i64 p.atoms,ae p.rules]),cO (m*1) (aM L)] g (.ret (.tup 0 (nth []))) [cO 1 (fun _=>.ow true 6 m' 1),cO 1 (fun _=>.int .i64 most),cO 1 (fun _=>aj O),cO 1 (fun _=>.fn 78 0 (nth []) 5 (nth [.ref 0 0,.ref 1 0,.ref 2 0,.ref 3 0,.ref 4 0])),cO 2 (nth [.int .i64 p.atoms,ae p.rules]),.dead,cO (m'*1) (aM L')] g
theorem ly {P:Program}{R:Res}{k0:Nat}{rs:List ResultVar}{x:AV}{hp':List AObj}{g':R.σ}{s:St R.σ}(v:AV)(ob:List Prop)(h:d7 (ax P) s rs=some (v,ob))(hob:ap ob)(ht:To R k0 ⟨[(0,v)],s.hp,s.g⟩ ⟨[(0,x)],hp',g'⟩):bw P R k0 rs (.ret x) hp' g' .normal s:=
 ⟨v,ob,x,_,h,hob,rfl,ht,rfl,rfl,rfl⟩
theorem lz {f:Nat->Nat}{g:FuncId}(h0:f 0=0:=by rfl)(h1:f 1=1:=by rfl)(h2:f 2=2:=by rfl)(h3:f 3=3:=by rfl)(h4:f 4=4:=by rfl):Le (.fn g 0 (nth []) 5 (nth [.ref 0 0,.ref 1 0,.ref 2 0,.ref 3 0,.ref 4 0])) (aN f (.fn g 0 (nth []) 5 (nth [.ref 0 0,.ref 1 0,.ref 2 0,.ref 3 0,.ref 4 0]))):=
 Le.fn (fun i hi=>absurd hi (Nat.not_lt_zero i)) (fun i hi=>match i,hi with
  |0,_=>Ag (by show AV.ref 0 0=.ref (f 0) 0;rw[h0])
  |1,_=>Ag (by show AV.ref 1 0=.ref (f 1) 0;rw[h1])
  |2,_=>Ag (by show AV.ref 2 0=.ref (f 2) 0;rw[h2])
  |3,_=>Ag (by show AV.ref 3 0=.ref (f 3) 0;rw[h3])
  |4,_=>Ag (by show AV.ref 4 0=.ref (f 4) 0;rw[h4]))
theorem yX {p:Prg}{most:Nat}{O:KL Int}(hm:1<=most/\most<=100)(hO:O.l.length<=10)(hl:p.rules.l.length<1000000)(hr:∀r,r∈p.rules.l->aP r):FromC p most O [] O.l.length:=by
 have hroom:aG=140737488355328:=rfl
 have hb:decide ((O.l.length:Int)<(O.l.length:Int))=false:=decide_eq_false omg
 have hz:(((0:Nat):Int)==(most:Int))=false:=by rw[beq_eq_false_iff_ne];omega
 have e0:∀s L,stF p most [] s L=if L.length=most then L else if fol p.rules.l s=s then L++[s] else L:=fun s L=>rfl
 have hC:=fun (R:Res) [Tab LT R] (s:Nat) (hs:s<2^24) (g:R.σ)=>ix R s hs g
 constructor
 ·intro R _ s g hs h
  rw[e0,if_neg (by show ¬0=most;omega)] at h
  have hf:((fol p.rules.l s:Int)==(s:Int))=false:=by
   rw[beq_eq_false_iff_ne]
   intro e
   rw[if_pos omg] at h
   cases h
  refine spW (nt:=47) (rs:=[]) (k0:=5) ?_
  refine vcR [[0,1,0],[0,1,1,1,0],[0,1,1,1,1,1,0]] (lkL [(0,[0,1,2,4,5,6,9]),(1,[0,1,2,4,5,6,14]),(4,[1,2,35])]) (lkL [(4,[(2,ROrc.pcall (int u64 (↑(fol p.rules.l s):Int)))])]) (fun Q=>(fun (u1:List AObj)=>(fun (u2:Int)=>(fun (u3:Bool)=>(fun (u4:AEx->St R.σ->Prop)=>(fun (u5:AV)=>(fun (u6:Bool)=>1<=1/\1<=1/\(u6=true->Wp Tryd.prog R 47 5 Rd.top (az Tryd.prog 78) [0,1,0] u4 (St.mk [(0,i6 u2),(1,u5),(2,ref 0 0),(4,ref 2 0),(5,ref 3 0),(6,ref 4 0),(9,AV.bool u6)] u1 g))/\(u6=false->1<=1/\(decide (u2<u2)=true->Wp Tryd.prog R 47 5 Rd.top (az Tryd.prog 78) [0,1,1,1,0] u4 (St.mk [(0,i6 u2),(1,u5),(2,ref 0 0),(4,ref 2 0),(5,ref 3 0),(6,ref 4 0),(14,AV.bool (decide (u2<u2)))] u1 g))/\(decide (u2<u2)=false->2<=2/\(∀(hp:List AObj) (g:R.σ),true=true/\Does Tryd.prog R 80 [av p,u5] hp g (ret (int u64 (↑(fol p.rules.l s):Int))) hp g)/\(u3=true->Wp Tryd.prog R 47 5 Rd.top (az Tryd.prog 78) [0,1,1,1,1,1,0] u4 (St.mk [(1,u5),(2,ref 0 0),(35,AV.bool u3)] u1 g))/\(u3=false->Q AEx.normal (St.mk [(1,u5),(2,ref 0 0),(35,AV.bool u3)] u1 g))))) ((↑0:Int)==(↑most:Int))) (int u64 (↑s:Int))) (aV Tryd.prog R 47 5 Rd.top (az Tryd.prog 78) Q [Kont.blk 0])) ((↑(fol p.rules.l s):Int)==(↑s:Int))) ((↑(List.length O.l):Int))) ([cO 1 fun x=>fz Fz.nil 0 0 fun x x_1=>any,cO 1 fun x=>i6 (↑most:Int),cO 1 fun x=>fz O.2 1 (List.length O.l) fun i x=>ac O.l i,cO 1 fun x=>fn 78 0 (nth []) 5 (nth [ref 0 0,ref 1 0,ref 2 0,ref 3 0,ref 4 0]),cO 2 (nth [i6 p.atoms,ae p.rules])])) ⟨omg,omg,fun hcc=>(nomatch (hz.symm.trans hcc)),fun _=>⟨omg,fun hcc=>(nomatch (hb.symm.trans hcc)),fun _=>⟨omg,(fun _ _=>⟨rfl,(kV _ _ _ _ omg omg omg _)⟩),fun hcc=>(nomatch (hf.symm.trans hcc)),fun _=>?_⟩⟩⟩
  refine(aq (aR _ _ rfl trivial rfl rfl rfl) (Af _))
 ·intro R _ s m L g hs h hL hmL
  rw[e0,if_neg (by show ¬0=most;omega)] at h
  have hf:((fol p.rules.l s:Int)==(s:Int))=true:=by
   rw[beq_iff_eq]
   by_cases e:fol p.rules.l s=s
   ·omega
   ·rw[if_neg e] at h
    exact absurd h.symm hL
  rw[if_pos (by rw[beq_iff_eq] at hf;omega)] at h
  subst h
  subst hmL
  refine spW (nt:=47) (rs:=[]) (k0:=5) ?_
  refine vcR [[0,1,0],[0,1,1,1,0],[0,1,1,1,1,1,1]] (lkL [(0,[0,1,2,4,5,6,9]),(1,[0,1,2,4,5,6,14]),(4,[1,2,35])]) (lkL [(4,[(2,ROrc.pcall (int u64 (↑(fol p.rules.l s):Int)))]),(5,[(2,ROrc.callN (fn 105 0 (nth []) 1 (nth [ref (List.length [cO 1 fun (x:Nat)=>fz Fz.nil 0 0 fun (x x_1:Nat)=>any,cO 1 fun (x:Nat)=>i6 (↑most:Int),cO 1 fun (x:Nat)=>fz O.2 1 (List.length O.l) fun (i x:Nat)=>ac O.l i,cO 1 fun (x:Nat)=>fn 78 0 (nth []) 5 (nth [ref 0 0,ref 1 0,ref 2 0,ref 3 0,ref 4 0]),cO 2 (nth [i6 p.atoms,ae p.rules])]) 0])) [] [cO 1 fun (x:Nat)=>int u64 (↑s:Int)] g),(3,ROrc.callS (fz Fz.auto 1 (List.length (af s).l) fun (i x:Nat)=>ac (af s).l i) [(5,cO 1 fun (j:Nat)=>any)] g),(5,ROrc.val (Orc.obj (aM ([]++[s])))),(6,ROrc.val (Orc.obj (nth [ow true 7 1 1])))])]) (fun Q=>(fun (u1:List AObj)=>(fun (u2:List AObj)=>(fun (u3:Int)=>(fun (u4:AV)=>(fun (u5:AV)=>(fun (u6:AEx->St R.σ->Prop)=>(fun (u7:AObj)=>(fun (u8:AObj)=>(fun (u9:Bool)=>(fun (u10:AV)=>(fun (u11:Bool)=>(fun (u12:AObj)=>(fun (u13:AObj)=>1<=1/\1<=1/\(u11=true->Wp Tryd.prog R 47 5 Rd.top (az Tryd.prog 78) [0,1,0] u6 (St.mk [(0,i6 u3),(1,u10),(2,ref 0 0),(4,ref 2 0),(5,ref 3 0),(6,ref 4 0),(9,AV.bool u11)] u1 g))/\(u11=false->1<=1/\(decide (u3<u3)=true->Wp Tryd.prog R 47 5 Rd.top (az Tryd.prog 78) [0,1,1,1,0] u6 (St.mk [(0,i6 u3),(1,u10),(2,ref 0 0),(4,ref 2 0),(5,ref 3 0),(6,ref 4 0),(14,AV.bool (decide (u3<u3)))] u1 g))/\(decide (u3<u3)=false->2<=2/\(∀(hp:List AObj) (g:R.σ),true=true/\Does Tryd.prog R 80 [av p,u10] hp g (ret (int u64 (↑(fol p.rules.l s):Int))) hp g)/\(u9=true->Flw Tryd.prog/\1<=1/\(true=true/\Does Tryd.prog R 77 [u10] u1 g (ret (fn 105 0 (nth []) 1 (nth [ref 5 0]))) u2 g)/\(true=true/\Does Tryd.prog R 75 [fn 105 0 (nth []) 1 (nth [ref 5 0])] u2 g (ret u4) [cO 1 fun x=>u5,u13,u8,u7,u12,cO 1 fun j=>any] g)/\0<1/\24<=aG/\1<=aG/\1<=1/\(∀(c:Nat),c<1->(fz Fz.auto 1 (List.length (af (List.getD ([]++[s]) c 0)).l) fun i x=>ac (af (List.getD ([]++[s]) c 0)).l i)=ba 1 0 (fun (x x_1:Nat)=>any) (fun (i j:Nat)=>am (fun (j:Nat)=>u5) 0 1 (fun (x:Nat)=>u4) (0+i*1+j)) c)/\1<=1/\(∀(c:Nat),c<1->nth [ow true 7 1 1] c=am (fun (x:Nat)=>u5) 0 1 (fun (x:Nat)=>ow true 7 1 1) c)/\Q AEx.normal (St.mk [] [cO 1 (nth [ow true 7 1 1]),u13,u8,u7,u12,cO 1 fun j=>any,cO 1 (am (fun (j:Nat)=>u5) 0 1 fun x=>u4),cO 1 fun a=>fz Fz.auto 1 (List.length (af (List.getD ([]++[s]) a 0)).l) fun i x=>ac (af (List.getD ([]++[s]) a 0)).l i] g))/\(u9=false->Wp Tryd.prog R 47 5 Rd.top (az Tryd.prog 78) [0,1,1,1,1,1,1] u6 (St.mk [(1,u10),(2,ref 0 0),(35,AV.bool u9)] u1 g))))) (cO 1 fun x=>i6 (↑most:Int))) (cO 2 (nth [i6 p.atoms,ae p.rules]))) ((↑0:Int)==(↑most:Int))) (int u64 (↑s:Int))) ((↑(fol p.rules.l s):Int)==(↑s:Int))) (cO 1 fun x=>fz O.2 1 (List.length O.l) fun i x=>ac O.l i)) (cO 1 fun x=>fn 78 0 (nth []) 5 (nth [ref 0 0,ref 1 0,ref 2 0,ref 3 0,ref 4 0]))) (aV Tryd.prog R 47 5 Rd.top (az Tryd.prog 78) Q [Kont.blk 0])) (fz Fz.nil 0 0 fun x x_1=>any)) (fz Fz.auto 1 (List.length (af s).l) fun i x=>ac (af s).l i)) ((↑(List.length O.l):Int))) ([cO 1 fun x=>fz Fz.nil 0 0 fun x x_1=>any,cO 1 fun x=>i6 (↑most:Int),cO 1 fun x=>fz O.2 1 (List.length O.l) fun i x=>ac O.l i,cO 1 fun x=>fn 78 0 (nth []) 5 (nth [ref 0 0,ref 1 0,ref 2 0,ref 3 0,ref 4 0]),cO 2 (nth [i6 p.atoms,ae p.rules]),cO 1 fun x=>int u64 (↑s:Int)])) ([cO 1 fun x=>fz Fz.nil 0 0 fun x x_1=>any,cO 1 fun x=>i6 (↑most:Int),cO 1 fun x=>fz O.2 1 (List.length O.l) fun i x=>ac O.l i,cO 1 fun x=>fn 78 0 (nth []) 5 (nth [ref 0 0,ref 1 0,ref 2 0,ref 3 0,ref 4 0]),cO 2 (nth [i6 p.atoms,ae p.rules])])) ⟨omg,omg,fun hcc=>(nomatch (hz.symm.trans hcc)),fun _=>⟨omg,fun hcc=>(nomatch (hb.symm.trans hcc)),fun _=>⟨omg,(fun _ _=>⟨rfl,(kV _ _ _ _ omg omg omg _)⟩),fun _=>⟨krf,omg,⟨rfl,(dg _ _ _ _)⟩,⟨rfl,(doT (T:=LT) [5] 6 (fun R _ g=>hC R (s) omg g))⟩,omg,omg,omg,omg,?_,omg,(fun c hc=>match c,hc with|0,_=>krf ),?_⟩,fun hcc=>(nomatch (hf.symm.trans hcc))⟩⟩⟩
  ·exact fun c hc=>(lx (L:=[]) (m:=0) (z:=fun _=>.fz .nil 0 0 (fun _ _=>.any)) (old:=fun _ _=>.any) rfl (fun i hi=>absurd hi (Nat.not_lt_zero i)) hc).trans krf
  ·refine ly (.tup 0 (nth [])) _ rfl trivial ?_
   refine ep [0,1,2,3,4,7] 8 ?_ ?_ ?_ ?_ ?_ ?_ ?_
   ·rfl
   ·rfl
   ·rfl
   ·rfl
   ·rfl
   ·exact⟨Af _,trivial⟩
   ·exact⟨⟨rfl,Nat.le_refl _,fun j hj=>match j,hj with|0,_=>Af _⟩,Ai _,Ai _,⟨rfl,Nat.le_refl _,fun j hj=>lz⟩,⟨rfl,Nat.le_refl _,fun j hj=>match j,hj with|0,_=>Af _|1,_=>bp (by exact trivial)⟩,⟨rfl,Nat.le_refl _,fun j hj=>Af _⟩,trivial⟩
 ·intro R _ s m L g hs hL hmL hmm h
  rw[e0] at h
  refine spW (nt:=47) (rs:=[]) (k0:=6) ?_
  refine vcR [[0,1,1,1,0]] (lkL [(0,[0,1,2,4,5,6,9]),(1,[0,1,2,4,5,6,14]),(4,[1,2,35])]) (lkL [(4,[(2,ROrc.pcall (int u64 (↑(fol p.rules.l s):Int)))]),(5,[(2,ROrc.callN (fn 105 0 (nth []) 1 (nth [ref (List.length [cO 1 fun (x:Nat)=>ow true 5 m 1,cO 1 fun (x:Nat)=>i6 (↑most:Int),cO 1 fun (x:Nat)=>fz O.2 1 (List.length O.l) fun (i x:Nat)=>ac O.l i,cO 1 fun (x:Nat)=>fn 78 0 (nth []) 5 (nth [ref 0 0,ref 1 0,ref 2 0,ref 3 0,ref 4 0]),cO 2 (nth [i6 p.atoms,ae p.rules]),cO (m*1) fun (a:Nat)=>fz Fz.auto 1 (List.length (af (List.getD L a 0)).l) fun (i x:Nat)=>ac (af (List.getD L a 0)).l i]) 0])) [] [cO 1 fun (x:Nat)=>int u64 (↑s:Int)] g),(3,ROrc.callS (fz Fz.auto 1 (List.length (af s).l) fun (i x:Nat)=>ac (af s).l i) [(6,cO 1 fun (j:Nat)=>any)] g),(6,ROrc.val (Orc.obj (nth [ow true 8 (m+1) 1])))])]) (fun Q=>(fun (u1:List AObj)=>(fun (u2:List AObj)=>(fun (u3:Int)=>(fun (u4:AV)=>(fun (u5:AObj)=>(fun (u6:AObj)=>(fun (u7:Bool)=>(fun (u8:AV)=>(fun (u9:Bool)=>(fun (u10:AObj)=>(fun (u11:AObj)=>1<=1/\1<=1/\(u9=true->Q AEx.normal (St.mk [(0,i6 u3),(1,u8),(2,ref 0 0),(4,ref 2 0),(5,ref 3 0),(6,ref 4 0),(9,AV.bool u9)] u1 g))/\(u9=false->1<=1/\(decide (u3<u3)=true->WpC Tryd.prog R 47 6 78 [0,1,1,1,0] Q [Kont.blk 0] (St.mk [(0,i6 u3),(1,u8),(2,ref 0 0),(4,ref 2 0),(5,ref 3 0),(6,ref 4 0),(14,AV.bool (decide (u3<u3)))] u1 g))/\(decide (u3<u3)=false->2<=2/\(∀(hp:List AObj) (g:R.σ),true=true/\Does Tryd.prog R 80 [av p,u8] hp g (ret (int u64 (↑(fol p.rules.l s):Int))) hp g)/\(u7=true->Flw Tryd.prog/\1<=1/\(true=true/\Does Tryd.prog R 77 [u8] u1 g (ret (fn 105 0 (nth []) 1 (nth [ref 6 0]))) u2 g)/\(true=true/\Does Tryd.prog R 75 [fn 105 0 (nth []) 1 (nth [ref 6 0])] u2 g (ret u4) [cO 1 fun x=>ow true 5 m 1,u11,u6,u5,u10,cO (m*1) fun a=>fz Fz.auto 1 (List.length (af (List.getD L a 0)).l) fun i x=>ac (af (List.getD L a 0)).l i,cO 1 fun j=>any] g)/\0<1/\(m+1)*24<=aG/\m+1<=aG/\1<=1/\m*1<=m*1/\1<=1/\(∀(c:Nat),c<1->nth [ow true 8 (m+1) 1] c=am (fun (x:Nat)=>ow true 5 m 1) 0 1 (fun (x:Nat)=>ow true 8 (m+1) 1) c)/\Q AEx.normal (St.mk [] [cO 1 (nth [ow true 8 (m+1) 1]),u11,u6,u5,u10,dead,cO 1 fun j=>any,cO 1 (am (fun (j:Nat)=>fz Fz.nil 0 0 fun x x_1=>any) 0 1 fun x=>u4),cO ((m+1)*1) (ba 1 m (fun (i j:Nat)=>fz Fz.auto 1 (List.length (af (List.getD L (i*1+j) 0)).l) fun i_1 x=>ac (af (List.getD L (i*1+j) 0)).l i_1) fun i j=>am (fun (j:Nat)=>fz Fz.nil 0 0 fun x x_1=>any) 0 1 (fun (x:Nat)=>u4) (0+i*1+j))] g))/\(u7=false->Q AEx.normal (St.mk [(1,u8),(2,ref 0 0),(35,AV.bool u7)] u1 g))))) (cO 1 fun x=>i6 (↑most:Int))) (cO 2 (nth [i6 p.atoms,ae p.rules]))) ((↑m:Int)==(↑most:Int))) (int u64 (↑s:Int))) ((↑(fol p.rules.l s):Int)==(↑s:Int))) (cO 1 fun x=>fz O.2 1 (List.length O.l) fun i x=>ac O.l i)) (cO 1 fun x=>fn 78 0 (nth []) 5 (nth [ref 0 0,ref 1 0,ref 2 0,ref 3 0,ref 4 0]))) (fz Fz.auto 1 (List.length (af s).l) fun i x=>ac (af s).l i)) ((↑(List.length O.l):Int))) ([cO 1 fun x=>ow true 5 m 1,cO 1 fun x=>i6 (↑most:Int),cO 1 fun x=>fz O.2 1 (List.length O.l) fun i x=>ac O.l i,cO 1 fun x=>fn 78 0 (nth []) 5 (nth [ref 0 0,ref 1 0,ref 2 0,ref 3 0,ref 4 0]),cO 2 (nth [i6 p.atoms,ae p.rules]),cO (m*1) fun a=>fz Fz.auto 1 (List.length (af (List.getD L a 0)).l) fun i x=>ac (af (List.getD L a 0)).l i,cO 1 fun x=>int u64 (↑s:Int)])) ([cO 1 fun x=>ow true 5 m 1,cO 1 fun x=>i6 (↑most:Int),cO 1 fun x=>fz O.2 1 (List.length O.l) fun i x=>ac O.l i,cO 1 fun x=>fn 78 0 (nth []) 5 (nth [ref 0 0,ref 1 0,ref 2 0,ref 3 0,ref 4 0]),cO 2 (nth [i6 p.atoms,ae p.rules]),cO (m*1) fun a=>fz Fz.auto 1 (List.length (af (List.getD L a 0)).l) fun i x=>ac (af (List.getD L a 0)).l i])) ⟨omg,omg,fun c1=>have c1:(↑m:Int)=(↑most:Int):=(beq_iff_eq.mp c1);?_,fun c1=>have c1:¬(↑m:Int)=(↑most:Int):=(beq_eq_false_iff_ne.mp c1);⟨omg,fun hcc=>(nomatch (hb.symm.trans hcc)),fun _=>⟨omg,(fun _ _=>⟨rfl,(kV _ _ _ _ omg omg omg _)⟩),fun c2=>have c2:(↑(fol p.rules.l s):Int)=(↑s:Int):=(beq_iff_eq.mp c2);⟨krf,omg,⟨rfl,(dg _ _ _ _)⟩,⟨rfl,(doT (T:=LT) [6] 7 (fun R _ g=>hC R (s) omg g))⟩,omg,omg,omg,omg,omg,omg,(fun c hc=>match c,hc with|0,_=>krf ),?_⟩,fun c2=>have c2:¬(↑(fol p.rules.l s):Int)=(↑s:Int):=(beq_eq_false_iff_ne.mp c2);?_⟩⟩⟩
  ·refine(aq (aR _ _ rfl trivial rfl rfl rfl) (Af _))
  ·exfalso
   rw[if_neg omg,if_pos omg] at h
   have:=congrArg List.length h
   rw[List.length_append,List.length_singleton] at this
   omega
  ·refine(aq (aR _ _ rfl trivial rfl rfl rfl) (Af _))
 ·intro R _ s m m' L L' g hs hL hmL hmm h hm' hne
  rw[e0] at h
  have hf:((fol p.rules.l s:Int)==(s:Int))=true:=by
   rw[beq_iff_eq]
   by_cases e:fol p.rules.l s=s
   ·omega
   ·rw[if_neg e,ite_self] at h
    subst h
    omega
  have h1:¬L.length=most:=fun e=>by
   rw[if_pos e] at h
   subst h
   omega
  rw[if_neg h1,if_pos (by rw[beq_iff_eq] at hf;omega)] at h
  subst h
  have hmm1:m'=m+1:=by rw[hm',List.length_append,hmL];rfl
  subst hmm1
  have hz:((m:Int)==(most:Int))=false:=by rw[beq_eq_false_iff_ne];omega
  refine spW (nt:=47) (rs:=[]) (k0:=6) ?_
  refine vcR [[0,1,0],[0,1,1,1,0],[0,1,1,1,1,1,1]] (lkL [(0,[0,1,2,4,5,6,9]),(1,[0,1,2,4,5,6,14]),(4,[1,2,35])]) (lkL [(4,[(2,ROrc.pcall (int u64 (↑(fol p.rules.l s):Int)))]),(5,[(2,ROrc.callN (fn 105 0 (nth []) 1 (nth [ref (List.length [cO 1 fun (x:Nat)=>ow true 5 m 1,cO 1 fun (x:Nat)=>i6 (↑most:Int),cO 1 fun (x:Nat)=>fz O.2 1 (List.length O.l) fun (i x:Nat)=>ac O.l i,cO 1 fun (x:Nat)=>fn 78 0 (nth []) 5 (nth [ref 0 0,ref 1 0,ref 2 0,ref 3 0,ref 4 0]),cO 2 (nth [i6 p.atoms,ae p.rules]),cO (m*1) fun (a:Nat)=>fz Fz.auto 1 (List.length (af (List.getD L a 0)).l) fun (i x:Nat)=>ac (af (List.getD L a 0)).l i]) 0])) [] [cO 1 fun (x:Nat)=>int u64 (↑s:Int)] g),(3,ROrc.callS (fz Fz.auto 1 (List.length (af s).l) fun (i x:Nat)=>ac (af s).l i) [(6,cO 1 fun (j:Nat)=>any)] g),(5,ROrc.val (Orc.obj (aM (L++[s])))),(6,ROrc.val (Orc.obj (nth [ow true 8 (m+1) 1])))])]) (fun Q=>(fun (u1:List AObj)=>(fun (u2:List AObj)=>(fun (u3:Int)=>(fun (u4:AV)=>(fun (u5:AEx->St R.σ->Prop)=>(fun (u6:AObj)=>(fun (u7:AObj)=>(fun (u8:Bool)=>(fun (u9:AV)=>(fun (u10:Bool)=>(fun (u11:AObj)=>(fun (u12:AObj)=>1<=1/\1<=1/\(u10=true->Wp Tryd.prog R 47 6 Rd.top (az Tryd.prog 78) [0,1,0] u5 (St.mk [(0,i6 u3),(1,u9),(2,ref 0 0),(4,ref 2 0),(5,ref 3 0),(6,ref 4 0),(9,AV.bool u10)] u1 g))/\(u10=false->1<=1/\(decide (u3<u3)=true->Wp Tryd.prog R 47 6 Rd.top (az Tryd.prog 78) [0,1,1,1,0] u5 (St.mk [(0,i6 u3),(1,u9),(2,ref 0 0),(4,ref 2 0),(5,ref 3 0),(6,ref 4 0),(14,AV.bool (decide (u3<u3)))] u1 g))/\(decide (u3<u3)=false->2<=2/\(∀(hp:List AObj) (g:R.σ),true=true/\Does Tryd.prog R 80 [av p,u9] hp g (ret (int u64 (↑(fol p.rules.l s):Int))) hp g)/\(u8=true->Flw Tryd.prog/\1<=1/\(true=true/\Does Tryd.prog R 77 [u9] u1 g (ret (fn 105 0 (nth []) 1 (nth [ref 6 0]))) u2 g)/\(true=true/\Does Tryd.prog R 75 [fn 105 0 (nth []) 1 (nth [ref 6 0])] u2 g (ret u4) [cO 1 fun x=>ow true 5 m 1,u12,u7,u6,u11,cO (m*1) fun a=>fz Fz.auto 1 (List.length (af (List.getD L a 0)).l) fun i x=>ac (af (List.getD L a 0)).l i,cO 1 fun j=>any] g)/\0<1/\(m+1)*24<=aG/\m+1<=aG/\1<=1/\m*1<=m*1/\(∀(c:Nat),c<(m+1)*1->(fz Fz.auto 1 (List.length (af (List.getD (L++[s]) c 0)).l) fun i x=>ac (af (List.getD (L++[s]) c 0)).l i)=ba 1 m (fun (i j:Nat)=>fz Fz.auto 1 (List.length (af (List.getD L (i*1+j) 0)).l) fun i_1 x=>ac (af (List.getD L (i*1+j) 0)).l i_1) (fun (i j:Nat)=>am (fun (j:Nat)=>fz Fz.nil 0 0 fun x x_1=>any) 0 1 (fun (x:Nat)=>u4) (0+i*1+j)) c)/\1<=1/\(∀(c:Nat),c<1->nth [ow true 8 (m+1) 1] c=am (fun (x:Nat)=>ow true 5 m 1) 0 1 (fun (x:Nat)=>ow true 8 (m+1) 1) c)/\Q AEx.normal (St.mk [] [cO 1 (nth [ow true 8 (m+1) 1]),u12,u7,u6,u11,dead,cO 1 fun j=>any,cO 1 (am (fun (j:Nat)=>fz Fz.nil 0 0 fun x x_1=>any) 0 1 fun x=>u4),cO ((m+1)*1) fun a=>fz Fz.auto 1 (List.length (af (List.getD (L++[s]) a 0)).l) fun i x=>ac (af (List.getD (L++[s]) a 0)).l i] g))/\(u8=false->Wp Tryd.prog R 47 6 Rd.top (az Tryd.prog 78) [0,1,1,1,1,1,1] u5 (St.mk [(1,u9),(2,ref 0 0),(35,AV.bool u8)] u1 g))))) (cO 1 fun x=>i6 (↑most:Int))) (cO 2 (nth [i6 p.atoms,ae p.rules]))) ((↑m:Int)==(↑most:Int))) (int u64 (↑s:Int))) ((↑(fol p.rules.l s):Int)==(↑s:Int))) (cO 1 fun x=>fz O.2 1 (List.length O.l) fun i x=>ac O.l i)) (cO 1 fun x=>fn 78 0 (nth []) 5 (nth [ref 0 0,ref 1 0,ref 2 0,ref 3 0,ref 4 0]))) (aV Tryd.prog R 47 6 Rd.top (az Tryd.prog 78) Q [Kont.blk 0])) (fz Fz.auto 1 (List.length (af s).l) fun i x=>ac (af s).l i)) ((↑(List.length O.l):Int))) ([cO 1 fun x=>ow true 5 m 1,cO 1 fun x=>i6 (↑most:Int),cO 1 fun x=>fz O.2 1 (List.length O.l) fun i x=>ac O.l i,cO 1 fun x=>fn 78 0 (nth []) 5 (nth [ref 0 0,ref 1 0,ref 2 0,ref 3 0,ref 4 0]),cO 2 (nth [i6 p.atoms,ae p.rules]),cO (m*1) fun a=>fz Fz.auto 1 (List.length (af (List.getD L a 0)).l) fun i x=>ac (af (List.getD L a 0)).l i,cO 1 fun x=>int u64 (↑s:Int)])) ([cO 1 fun x=>ow true 5 m 1,cO 1 fun x=>i6 (↑most:Int),cO 1 fun x=>fz O.2 1 (List.length O.l) fun i x=>ac O.l i,cO 1 fun x=>fn 78 0 (nth []) 5 (nth [ref 0 0,ref 1 0,ref 2 0,ref 3 0,ref 4 0]),cO 2 (nth [i6 p.atoms,ae p.rules]),cO (m*1) fun a=>fz Fz.auto 1 (List.length (af (List.getD L a 0)).l) fun i x=>ac (af (List.getD L a 0)).l i])) ⟨omg,omg,fun hcc=>(nomatch (hz.symm.trans hcc)),fun _=>⟨omg,fun hcc=>(nomatch (hb.symm.trans hcc)),fun _=>⟨omg,(fun _ _=>⟨rfl,(kV _ _ _ _ omg omg omg _)⟩),fun _=>⟨krf,omg,⟨rfl,(dg _ _ _ _)⟩,⟨rfl,(doT (T:=LT) [6] 7 (fun R _ g=>hC R (s) omg g))⟩,omg,omg,omg,omg,omg,?_,omg,(fun c hc=>match c,hc with|0,_=>krf ),?_⟩,fun hcc=>(nomatch (hf.symm.trans hcc))⟩⟩⟩
  ·exact fun c hc=>(lx (L:=L) (m:=m) (z:=fun _=>.fz .nil 0 0 (fun _ _=>.any)) (old:=fun i j=>aM L (i*1+j)) hmL (fun i hi=>by show aM L (i*1+0)=aM L i;rw[show i*1+0=i by omega]) hc).trans krf
  ·refine ly (.tup 0 (nth [])) _ rfl trivial ?_
   refine ep [0,1,2,3,4,5,8] 9 ?_ ?_ ?_ ?_ ?_ ?_ ?_
   ·rfl
   ·rfl
   ·rfl
   ·rfl
   ·rfl
   ·exact⟨Af _,trivial⟩
   ·exact⟨⟨rfl,Nat.le_refl _,fun j hj=>match j,hj with|0,_=>Af _⟩,Ai _,Ai _,⟨rfl,Nat.le_refl _,fun j hj=>lz⟩,⟨rfl,Nat.le_refl _,fun j hj=>match j,hj with|0,_=>Af _|1,_=>bp (by exact trivial)⟩,trivial,⟨rfl,Nat.le_refl _,fun j hj=>Af _⟩,trivial⟩
theorem yY {p:Prg}{most:Nat}{O:KL Int}{r:List Int}{k:Nat}(hm:1<=most/\most<=100)(hO:O.l.length<=10)(hk:k<O.l.length)(ha24:0<=O.l.getD k 0/\O.l.getD k 0<24)(ih:FromC p most O r ((k:Int)+1)):FromC p most O (O.l.getD k 0::r) (k:Int):=by
 have hroom:aG=140737488355328:=rfl
 have hb:decide ((k:Int)<(O.l.length:Int))=true:=decide_eq_true (by omega)
 have hz:(((0:Nat):Int)==(most:Int))=false:=by rw[beq_eq_false_iff_ne];omega
 have e0:∀s L,stF p most (O.l.getD k 0::r) s L=if L.length=most then L else stF p most r (s|||2^(O.l.getD k 0).toNat) (stF p most r s L):=fun s L=>rfl
 have hor:∀s:Nat,s<2^24->IntKind.u64.wrap ((BitVec.ofInt 64 (s:Int)|||BitVec.ofInt 64 ((2^(O.l.getD k 0).toNat:Nat):Int)).toNat:Int)=((s|||2^(O.l.getD k 0).toNat:Nat):Int):=fun s hs=>Tb.u64_or (bT hs) (bT (Nat.pow_lt_pow_right (by decide) (by omega)))
 have hor24:∀s:Nat,s<2^24->s|||2^(O.l.getD k 0).toNat<2^24:=fun s hs=>jx hs (by omega)
 constructor
 ·intro R _ s g hs h
  rw[e0,if_neg (by show ¬0=most;omega)] at h
  obtain⟨t,ht⟩:∃t,s|||2^(O.l.getD k 0).toNat=t:=⟨_,rfl⟩
  have ht24:t<2^24:=by rw[<-ht];exact hor24 s hs
  have hoS:=(hor s hs).trans (congrArg (fun n:Nat=>(n:Int)) ht)
  have hL1:stF p most r s []=[]:=by
   by_cases e:stF p most r s []=[]
   ·exact e
   ·exact absurd h (yW (dV (Nat.zero_le _)).2.1 e)
  rw[hL1,ht] at h
  have i1:=fun (R:Res) [Tab LT R] (g:R.σ)=>ih.nn R s g hs hL1
  have i2:∀(R:Res) [Tab LT R] (g:R.σ),Does Tryd.prog R 78 [.int .i64 ((k:Int)+1),.int .u64 (IntKind.u64.wrap ((BitVec.ofInt 64 (s:Int)|||BitVec.ofInt 64 ((2^(O.l.getD k 0).toNat:Nat):Int)).toNat:Int)),.ref 0 0,.ref 1 0,.ref 2 0,.ref 3 0,.ref 4 0] [.cells false 1 (fun _=>.fz .nil 0 0 (fun _ _=>.any)),.cells false 1 (fun _=>.int .i64 most),.cells false 1 (fun _=>aj O),.cells false 1 (fun _=>.fn 78 0 (nth []) 5 (nth [.ref 0 0,.ref 1 0,.ref 2 0,.ref 3 0,.ref 4 0])),.cells false 2 (nth [.int .i64 p.atoms,ae p.rules])] g (.ret (.tup 0 (nth []))) [.cells false 1 (fun _=>.fz .nil 0 0 (fun _ _=>.any)),.cells false 1 (fun _=>.int .i64 most),.cells false 1 (fun _=>aj O),.cells false 1 (fun _=>.fn 78 0 (nth []) 5 (nth [.ref 0 0,.ref 1 0,.ref 2 0,.ref 3 0,.ref 4 0])),.cells false 2 (nth [.int .i64 p.atoms,ae p.rules])] g:=fun R _ g=>by rw[hoS];exact ih.nn R t g ht24 h
  refine dD (nt:=47) (rs:=[]) (k0:=5) (by kernel_rfl) (by kernel_rfl) (by kernel_rfl) rfl ?_
  refine vcQ [[0,1,0],[0,1,1,1,1]] (lkL [(0,[0,1,2,4,5,6,9]),(1,[0,1,2,4,5,6,14]),(2,[0,1,4,5])]) (lkL [(2,[(4,ROrc.call (tup 0 (nth [])) [cells false 1 fun (x:Nat)=>fz Fz.nil 0 0 fun _ _=>any,cells false 1 fun (x:Nat)=>int i64 (most:Int),cells false 1 fun (x:Nat)=>aj O,cells false 1 fun (x:Nat)=>fn 78 0 (nth []) 5 (nth [ref 0 0,ref 1 0,ref 2 0,ref 3 0,ref 4 0]),cells false 2 (nth [int i64 p.atoms,ae p.rules])] g)]),(3,[(8,ROrc.pcall (int u64 (↑(2^(O.l.getD k 0).toNat):Int))),(10,ROrc.callS (tup 0 (nth [])) [(2,cells false 1 fun (x:Nat)=>aj O)] g)])]) (fun Q=>(fun (u1:List AObj)=>(fun (u2:Int)=>(fun (u3:Int)=>(fun (u4:Bool)=>1<=1/\1<=1/\(u4=true->Wp Tryd.prog R 47 5 Rd.top (az Tryd.prog 78) [0,1,0] (aV Tryd.prog R 47 5 Rd.top (az Tryd.prog 78) Q [Kont.blk 0]) (St.mk [(0,int i64 u3),(1,int u64 (s:Int)),(2,ref 0 0),(4,ref 2 0),(5,ref 3 0),(6,ref 4 0),(9,AV.bool u4)] u1 g))/\(u4=false->1<=1/\(decide (u3<u2)=true->1<=1/\(-9223372036854775808<=u3+1/\u3+1<=9223372036854775807)/\(true=true/\Does Tryd.prog R 78 [int i64 (u3+1),int u64 (s:Int),ref 0 0,ref 1 0,ref 2 0,ref 3 0,ref 4 0] u1 g (ret (tup 0 (nth []))) u1 g)/\Tables.follows Tryd.prog.toTables Departure.mixedOrders=true/\1<=1/\(-9223372036854775808<=u3+1/\u3+1<=9223372036854775807)/\1<=1/\(0<=u3/\u3<u2)/\1<=1/\(∀(hp:List AObj) (g:R.σ),true=true/\Does Tryd.prog R 79 [ac O.l k] hp g (ret (int u64 (↑(2^(O.l.getD k 0).toNat):Int))) hp g)/\(true=true/\Does Tryd.prog R 78 [int i64 (u3+1),int u64 (IntKind.wrap u64 (↑(BitVec.toNat (BitVec.ofInt 64 (s:Int)|||BitVec.ofInt 64 (↑(2^(O.l.getD k 0).toNat):Int))):Int)),ref 0 0,ref 1 0,ref 2 0,ref 3 0,ref 4 0] u1 g (ret (tup 0 (nth []))) u1 g)/\Q AEx.normal (St.mk [] u1 g))/\(decide (u3<u2)=false->Wp Tryd.prog R 47 5 Rd.top (az Tryd.prog 78) [0,1,1,1,1] (aV Tryd.prog R 47 5 Rd.top (az Tryd.prog 78) Q [Kont.blk 0]) (St.mk [(0,int i64 u3),(1,int u64 (s:Int)),(2,ref 0 0),(4,ref 2 0),(5,ref 3 0),(6,ref 4 0),(14,AV.bool (decide (u3<u2)))] u1 g)))) ((↑0:Int)==(most:Int))) ((k:Int))) ((O.l.length:Int))) ([cells false 1 fun (x:Nat)=>fz Fz.nil 0 0 fun _ _=>any,cells false 1 fun (x:Nat)=>int i64 (most:Int),cells false 1 fun (x:Nat)=>fz O.2 1 (O.l.length) fun (i x:Nat)=>ac O.l i,cells false 1 fun (x:Nat)=>fn 78 0 (nth []) 5 (nth [ref 0 0,ref 1 0,ref 2 0,ref 3 0,ref 4 0]),cells false 2 (nth [int i64 p.atoms,ae p.rules])])) (fun _=>by kernel_rfl) ⟨by omega,by omega,fun hcc=>(nomatch (hz.symm.trans hcc)),fun _=>⟨by omega,fun _=>⟨by omega,by omega,⟨rfl,(i1 _ _)⟩,by kernel_rfl,by omega,by omega,by omega,by omega,by omega,(fun _ _=>⟨rfl,(et _ _ (by omega) _ _)⟩),⟨rfl,(i2 _ _)⟩,?_⟩,fun hcc=>(nomatch (hb.symm.trans hcc))⟩⟩
  refine(aq (aR _ _ rfl trivial rfl rfl rfl) (Af _))
 ·intro R _ s m' L' g hs h hL' hm'
  rw[e0,if_neg (by show ¬0=most;omega)] at h
  obtain⟨t,ht⟩:∃t,s|||2^(O.l.getD k 0).toNat=t:=⟨_,rfl⟩
  have ht24:t<2^24:=by rw[<-ht];exact hor24 s hs
  have hoS:=(hor s hs).trans (congrArg (fun n:Nat=>(n:Int)) ht)
  rw[ht] at h
  obtain⟨L,hL⟩:∃L,stF p most r s []=L:=⟨_,rfl⟩
  have hlen:=dV (p:=p) (most:=most) (r:=r) (s:=s) (out:=[]) (Nat.zero_le _)
  rw[hL] at h hlen
  by_cases e:L=[]
  ·subst e
   have i1:=fun (R:Res) [Tab LT R] (g:R.σ)=>ih.nn R s g hs hL
   have i2:∀(R:Res) [Tab LT R] (g:R.σ),Does Tryd.prog R 78 [.int .i64 ((k:Int)+1),.int .u64 (IntKind.u64.wrap ((BitVec.ofInt 64 (s:Int)|||BitVec.ofInt 64 ((2^(O.l.getD k 0).toNat:Nat):Int)).toNat:Int)),.ref 0 0,.ref 1 0,.ref 2 0,.ref 3 0,.ref 4 0] [.cells false 1 (fun _=>.fz .nil 0 0 (fun _ _=>.any)),.cells false 1 (fun _=>.int .i64 most),.cells false 1 (fun _=>aj O),.cells false 1 (fun _=>.fn 78 0 (nth []) 5 (nth [.ref 0 0,.ref 1 0,.ref 2 0,.ref 3 0,.ref 4 0])),.cells false 2 (nth [.int .i64 p.atoms,ae p.rules])] g (.ret (.tup 0 (nth []))) [.cells false 1 (fun _=>.ow true 5 m' 1),.cells false 1 (fun _=>.int .i64 most),.cells false 1 (fun _=>aj O),.cells false 1 (fun _=>.fn 78 0 (nth []) 5 (nth [.ref 0 0,.ref 1 0,.ref 2 0,.ref 3 0,.ref 4 0])),.cells false 2 (nth [.int .i64 p.atoms,ae p.rules]),.cells false (m'*1) (aM L')] g:=fun R _ g=>by rw[hoS];exact ih.nw R t m' L' g ht24 h hL' hm'
   refine dD (nt:=47) (rs:=[]) (k0:=5) (by kernel_rfl) (by kernel_rfl) (by kernel_rfl) rfl ?_
   refine vcQ [[0,1,0],[0,1,1,1,1]] (lkL [(0,[0,1,2,4,5,6,9]),(1,[0,1,2,4,5,6,14]),(2,[0,1,4,5])]) (lkL [(2,[(4,ROrc.call (tup 0 (nth [])) [cells false 1 fun (x:Nat)=>fz Fz.nil 0 0 fun _ _=>any,cells false 1 fun (x:Nat)=>int i64 (most:Int),cells false 1 fun (x:Nat)=>aj O,cells false 1 fun (x:Nat)=>fn 78 0 (nth []) 5 (nth [ref 0 0,ref 1 0,ref 2 0,ref 3 0,ref 4 0]),cells false 2 (nth [int i64 p.atoms,ae p.rules])] g)]),(3,[(8,ROrc.pcall (int u64 (↑(2^(O.l.getD k 0).toNat):Int))),(10,ROrc.callN (tup 0 (nth [])) [(0,cells false 1 fun (x:Nat)=>ow true 5 m' 1),(2,cells false 1 fun (x:Nat)=>aj O)] [cells false (m'*1) (aM L')] g)])]) (fun Q=>(fun (u1:List AObj)=>(fun (u2:List AObj)=>(fun (u3:Int)=>(fun (u4:Int)=>(fun (u5:Bool)=>1<=1/\1<=1/\(u5=true->Wp Tryd.prog R 47 5 Rd.top (az Tryd.prog 78) [0,1,0] (aV Tryd.prog R 47 5 Rd.top (az Tryd.prog 78) Q [Kont.blk 0]) (St.mk [(0,int i64 u4),(1,int u64 (s:Int)),(2,ref 0 0),(4,ref 2 0),(5,ref 3 0),(6,ref 4 0),(9,AV.bool u5)] u1 g))/\(u5=false->1<=1/\(decide (u4<u3)=true->1<=1/\(-9223372036854775808<=u4+1/\u4+1<=9223372036854775807)/\(true=true/\Does Tryd.prog R 78 [int i64 (u4+1),int u64 (s:Int),ref 0 0,ref 1 0,ref 2 0,ref 3 0,ref 4 0] u1 g (ret (tup 0 (nth []))) u1 g)/\Tables.follows Tryd.prog.toTables Departure.mixedOrders=true/\1<=1/\(-9223372036854775808<=u4+1/\u4+1<=9223372036854775807)/\1<=1/\(0<=u4/\u4<u3)/\1<=1/\(∀(hp:List AObj) (g:R.σ),true=true/\Does Tryd.prog R 79 [ac O.l k] hp g (ret (int u64 (↑(2^(O.l.getD k 0).toNat):Int))) hp g)/\(true=true/\Does Tryd.prog R 78 [int i64 (u4+1),int u64 (IntKind.wrap u64 (↑(BitVec.toNat (BitVec.ofInt 64 (s:Int)|||BitVec.ofInt 64 (↑(2^(O.l.getD k 0).toNat):Int))):Int)),ref 0 0,ref 1 0,ref 2 0,ref 3 0,ref 4 0] u1 g (ret (tup 0 (nth []))) u2 g)/\Q AEx.normal (St.mk [] u2 g))/\(decide (u4<u3)=false->Wp Tryd.prog R 47 5 Rd.top (az Tryd.prog 78) [0,1,1,1,1] (aV Tryd.prog R 47 5 Rd.top (az Tryd.prog 78) Q [Kont.blk 0]) (St.mk [(0,int i64 u4),(1,int u64 (s:Int)),(2,ref 0 0),(4,ref 2 0),(5,ref 3 0),(6,ref 4 0),(14,AV.bool (decide (u4<u3)))] u1 g)))) ((↑0:Int)==(most:Int))) ((k:Int))) ((O.l.length:Int))) ([cells false 1 fun (x:Nat)=>ow true 5 m' 1,cells false 1 fun (x:Nat)=>int i64 (most:Int),cells false 1 fun (x:Nat)=>fz O.2 1 (O.l.length) fun (i x:Nat)=>ac O.l i,cells false 1 fun (x:Nat)=>fn 78 0 (nth []) 5 (nth [ref 0 0,ref 1 0,ref 2 0,ref 3 0,ref 4 0]),cells false 2 (nth [int i64 p.atoms,ae p.rules]),cells false (m'*1) fun (a:Nat)=>fz Fz.auto 1 ((af (L'.getD a 0)).l.length) fun (i x:Nat)=>ac (af (L'.getD a 0)).l i])) ([cells false 1 fun (x:Nat)=>fz Fz.nil 0 0 fun _ _=>any,cells false 1 fun (x:Nat)=>int i64 (most:Int),cells false 1 fun (x:Nat)=>fz O.2 1 (O.l.length) fun (i x:Nat)=>ac O.l i,cells false 1 fun (x:Nat)=>fn 78 0 (nth []) 5 (nth [ref 0 0,ref 1 0,ref 2 0,ref 3 0,ref 4 0]),cells false 2 (nth [int i64 p.atoms,ae p.rules])])) (fun _=>by kernel_rfl) ⟨by omega,by omega,fun hcc=>(nomatch (hz.symm.trans hcc)),fun _=>⟨by omega,fun _=>⟨by omega,by omega,⟨rfl,(i1 _ _)⟩,by kernel_rfl,by omega,by omega,by omega,by omega,by omega,(fun _ _=>⟨rfl,(et _ _ (by omega) _ _)⟩),⟨rfl,(i2 _ _)⟩,?_⟩,fun hcc=>(nomatch (hb.symm.trans hcc))⟩⟩
   refine(aq (aR _ _ rfl trivial rfl rfl rfl) (Af _))
  ·obtain⟨m,hmL⟩:∃m,m=L.length:=⟨_,rfl⟩
   have h0:0<m:=by rw[hmL];exact List.length_pos_iff.2 e
   have hmm:m<=most:=by rw[hmL];exact hlen.2.1
   have hlen2:=dV (p:=p) (most:=most) (r:=r) (s:=t) (out:=L) hlen.2.1
   rw[h] at hlen2
   have h0':0<m':=by omega
   have hmm':m'<=most:=by omega
   have i1:=fun (R:Res) [Tab LT R] (g:R.σ)=>ih.nw R s m L g hs hL e hmL
   by_cases hmm1:m=m'
   ·have hLL:L'=L:=hlen2.2.2 (by omega)
    subst hLL
    subst hmm1
    have i2:∀(R:Res) [Tab LT R] (g:R.σ),Does Tryd.prog R 78 [.int .i64 ((k:Int)+1),.int .u64 (IntKind.u64.wrap ((BitVec.ofInt 64 (s:Int)|||BitVec.ofInt 64 ((2^(O.l.getD k 0).toNat:Nat):Int)).toNat:Int)),.ref 0 0,.ref 1 0,.ref 2 0,.ref 3 0,.ref 4 0] [.cells false 1 (fun _=>.ow true 5 m 1),.cells false 1 (fun _=>.int .i64 most),.cells false 1 (fun _=>aj O),.cells false 1 (fun _=>.fn 78 0 (nth []) 5 (nth [.ref 0 0,.ref 1 0,.ref 2 0,.ref 3 0,.ref 4 0])),.cells false 2 (nth [.int .i64 p.atoms,ae p.rules]),.cells false (m*1) (aM L')] g (.ret (.tup 0 (nth []))) [.cells false 1 (fun _=>.ow true 5 m 1),.cells false 1 (fun _=>.int .i64 most),.cells false 1 (fun _=>aj O),.cells false 1 (fun _=>.fn 78 0 (nth []) 5 (nth [.ref 0 0,.ref 1 0,.ref 2 0,.ref 3 0,.ref 4 0])),.cells false 2 (nth [.int .i64 p.atoms,ae p.rules]),.cells false (m*1) (aM L')] g:=fun R _ g=>by rw[hoS];exact ih.on R t m L' g ht24 hL' hmL hmm h
    refine dD (nt:=47) (rs:=[]) (k0:=5) (by kernel_rfl) (by kernel_rfl) (by kernel_rfl) rfl ?_
    refine vcQ [[0,1,0],[0,1,1,1,1]] (lkL [(0,[0,1,2,4,5,6,9]),(1,[0,1,2,4,5,6,14]),(2,[0,1,4,5])]) (lkL [(2,[(4,ROrc.call (tup 0 (nth [])) [cells false 1 fun (x:Nat)=>ow true 5 m 1,cells false 1 fun (x:Nat)=>int i64 (most:Int),cells false 1 fun (x:Nat)=>aj O,cells false 1 fun (x:Nat)=>fn 78 0 (nth []) 5 (nth [ref 0 0,ref 1 0,ref 2 0,ref 3 0,ref 4 0]),cells false 2 (nth [int i64 p.atoms,ae p.rules]),cells false (m*1) (aM L')] g)]),(3,[(8,ROrc.pcall (int u64 (↑(2^(O.l.getD k 0).toNat):Int))),(10,ROrc.callS (tup 0 (nth [])) [(2,cells false 1 fun (x:Nat)=>aj O),(5,cells false (m*1) (aM L'))] g)])]) (fun Q=>(fun (u1:List AObj)=>(fun (u2:List AObj)=>(fun (u3:Int)=>(fun (u4:Int)=>(fun (u5:Bool)=>1<=1/\1<=1/\(u5=true->Wp Tryd.prog R 47 5 Rd.top (az Tryd.prog 78) [0,1,0] (aV Tryd.prog R 47 5 Rd.top (az Tryd.prog 78) Q [Kont.blk 0]) (St.mk [(0,int i64 u4),(1,int u64 (s:Int)),(2,ref 0 0),(4,ref 2 0),(5,ref 3 0),(6,ref 4 0),(9,AV.bool u5)] u2 g))/\(u5=false->1<=1/\(decide (u4<u3)=true->1<=1/\(-9223372036854775808<=u4+1/\u4+1<=9223372036854775807)/\(true=true/\Does Tryd.prog R 78 [int i64 (u4+1),int u64 (s:Int),ref 0 0,ref 1 0,ref 2 0,ref 3 0,ref 4 0] u2 g (ret (tup 0 (nth []))) u1 g)/\Tables.follows Tryd.prog.toTables Departure.mixedOrders=true/\1<=1/\(-9223372036854775808<=u4+1/\u4+1<=9223372036854775807)/\1<=1/\(0<=u4/\u4<u3)/\1<=1/\(∀(hp:List AObj) (g:R.σ),true=true/\Does Tryd.prog R 79 [ac O.l k] hp g (ret (int u64 (↑(2^(O.l.getD k 0).toNat):Int))) hp g)/\(true=true/\Does Tryd.prog R 78 [int i64 (u4+1),int u64 (IntKind.wrap u64 (↑(BitVec.toNat (BitVec.ofInt 64 (s:Int)|||BitVec.ofInt 64 (↑(2^(O.l.getD k 0).toNat):Int))):Int)),ref 0 0,ref 1 0,ref 2 0,ref 3 0,ref 4 0] u1 g (ret (tup 0 (nth []))) u1 g)/\Q AEx.normal (St.mk [] u1 g))/\(decide (u4<u3)=false->Wp Tryd.prog R 47 5 Rd.top (az Tryd.prog 78) [0,1,1,1,1] (aV Tryd.prog R 47 5 Rd.top (az Tryd.prog 78) Q [Kont.blk 0]) (St.mk [(0,int i64 u4),(1,int u64 (s:Int)),(2,ref 0 0),(4,ref 2 0),(5,ref 3 0),(6,ref 4 0),(14,AV.bool (decide (u4<u3)))] u2 g)))) ((↑0:Int)==(most:Int))) ((k:Int))) ((O.l.length:Int))) ([cells false 1 fun (x:Nat)=>fz Fz.nil 0 0 fun _ _=>any,cells false 1 fun (x:Nat)=>int i64 (most:Int),cells false 1 fun (x:Nat)=>fz O.2 1 (O.l.length) fun (i x:Nat)=>ac O.l i,cells false 1 fun (x:Nat)=>fn 78 0 (nth []) 5 (nth [ref 0 0,ref 1 0,ref 2 0,ref 3 0,ref 4 0]),cells false 2 (nth [int i64 p.atoms,ae p.rules])])) ([cells false 1 fun (x:Nat)=>ow true 5 m 1,cells false 1 fun (x:Nat)=>int i64 (most:Int),cells false 1 fun (x:Nat)=>fz O.2 1 (O.l.length) fun (i x:Nat)=>ac O.l i,cells false 1 fun (x:Nat)=>fn 78 0 (nth []) 5 (nth [ref 0 0,ref 1 0,ref 2 0,ref 3 0,ref 4 0]),cells false 2 (nth [int i64 p.atoms,ae p.rules]),cells false (m*1) fun (a:Nat)=>fz Fz.auto 1 ((af (L'.getD a 0)).l.length) fun (i x:Nat)=>ac (af (L'.getD a 0)).l i])) (fun _=>by kernel_rfl) ⟨by omega,by omega,fun hcc=>(nomatch (hz.symm.trans hcc)),fun _=>⟨by omega,fun _=>⟨by omega,by omega,⟨rfl,(i1 _ _)⟩,by kernel_rfl,by omega,by omega,by omega,by omega,by omega,(fun _ _=>⟨rfl,(et _ _ (by omega) _ _)⟩),⟨rfl,(i2 _ _)⟩,?_⟩,fun hcc=>(nomatch (hb.symm.trans hcc))⟩⟩
    refine(aq (aR _ _ rfl trivial rfl rfl rfl) (Af _))
   ·have i2:∀(R:Res) [Tab LT R] (g:R.σ),Does Tryd.prog R 78 [.int .i64 ((k:Int)+1),.int .u64 (IntKind.u64.wrap ((BitVec.ofInt 64 (s:Int)|||BitVec.ofInt 64 ((2^(O.l.getD k 0).toNat:Nat):Int)).toNat:Int)),.ref 0 0,.ref 1 0,.ref 2 0,.ref 3 0,.ref 4 0] [.cells false 1 (fun _=>.ow true 5 m 1),.cells false 1 (fun _=>.int .i64 most),.cells false 1 (fun _=>aj O),.cells false 1 (fun _=>.fn 78 0 (nth []) 5 (nth [.ref 0 0,.ref 1 0,.ref 2 0,.ref 3 0,.ref 4 0])),.cells false 2 (nth [.int .i64 p.atoms,ae p.rules]),.cells false (m*1) (aM L)] g (.ret (.tup 0 (nth []))) [.cells false 1 (fun _=>.ow true 6 m' 1),.cells false 1 (fun _=>.int .i64 most),.cells false 1 (fun _=>aj O),.cells false 1 (fun _=>.fn 78 0 (nth []) 5 (nth [.ref 0 0,.ref 1 0,.ref 2 0,.ref 3 0,.ref 4 0])),.cells false 2 (nth [.int .i64 p.atoms,ae p.rules]),.dead,.cells false (m'*1) (aM L')] g:=fun R _ g=>by rw[hoS];exact ih.ow R t m m' L L' g ht24 e hmL hmm h hm' hmm1
    refine dD (nt:=47) (rs:=[]) (k0:=5) (by kernel_rfl) (by kernel_rfl) (by kernel_rfl) rfl ?_
    refine vcQ [[0,1,0],[0,1,1,1,1]] (lkL [(0,[0,1,2,4,5,6,9]),(1,[0,1,2,4,5,6,14]),(2,[0,1,4,5])]) (lkL [(2,[(4,ROrc.call (tup 0 (nth [])) [cells false 1 fun (x:Nat)=>ow true 5 m 1,cells false 1 fun (x:Nat)=>int i64 (most:Int),cells false 1 fun (x:Nat)=>aj O,cells false 1 fun (x:Nat)=>fn 78 0 (nth []) 5 (nth [ref 0 0,ref 1 0,ref 2 0,ref 3 0,ref 4 0]),cells false 2 (nth [int i64 p.atoms,ae p.rules]),cells false (m*1) (aM L)] g)]),(3,[(8,ROrc.pcall (int u64 (↑(2^(O.l.getD k 0).toNat):Int))),(10,ROrc.callN (tup 0 (nth [])) [(0,cells false 1 fun (x:Nat)=>ow true 6 m' 1),(2,cells false 1 fun (x:Nat)=>aj O),(5,dead)] [cells false (m'*1) (aM L')] g)])]) (fun Q=>(fun (u1:List AObj)=>(fun (u2:List AObj)=>(fun (u3:List AObj)=>(fun (u4:Int)=>(fun (u5:Int)=>(fun (u6:Bool)=>1<=1/\1<=1/\(u6=true->Wp Tryd.prog R 47 5 Rd.top (az Tryd.prog 78) [0,1,0] (aV Tryd.prog R 47 5 Rd.top (az Tryd.prog 78) Q [Kont.blk 0]) (St.mk [(0,int i64 u5),(1,int u64 (s:Int)),(2,ref 0 0),(4,ref 2 0),(5,ref 3 0),(6,ref 4 0),(9,AV.bool u6)] u1 g))/\(u6=false->1<=1/\(decide (u5<u4)=true->1<=1/\(-9223372036854775808<=u5+1/\u5+1<=9223372036854775807)/\(true=true/\Does Tryd.prog R 78 [int i64 (u5+1),int u64 (s:Int),ref 0 0,ref 1 0,ref 2 0,ref 3 0,ref 4 0] u1 g (ret (tup 0 (nth []))) u3 g)/\Tables.follows Tryd.prog.toTables Departure.mixedOrders=true/\1<=1/\(-9223372036854775808<=u5+1/\u5+1<=9223372036854775807)/\1<=1/\(0<=u5/\u5<u4)/\1<=1/\(∀(hp:List AObj) (g:R.σ),true=true/\Does Tryd.prog R 79 [ac O.l k] hp g (ret (int u64 (↑(2^(O.l.getD k 0).toNat):Int))) hp g)/\(true=true/\Does Tryd.prog R 78 [int i64 (u5+1),int u64 (IntKind.wrap u64 (↑(BitVec.toNat (BitVec.ofInt 64 (s:Int)|||BitVec.ofInt 64 (↑(2^(O.l.getD k 0).toNat):Int))):Int)),ref 0 0,ref 1 0,ref 2 0,ref 3 0,ref 4 0] u3 g (ret (tup 0 (nth []))) u2 g)/\Q AEx.normal (St.mk [] u2 g))/\(decide (u5<u4)=false->Wp Tryd.prog R 47 5 Rd.top (az Tryd.prog 78) [0,1,1,1,1] (aV Tryd.prog R 47 5 Rd.top (az Tryd.prog 78) Q [Kont.blk 0]) (St.mk [(0,int i64 u5),(1,int u64 (s:Int)),(2,ref 0 0),(4,ref 2 0),(5,ref 3 0),(6,ref 4 0),(14,AV.bool (decide (u5<u4)))] u1 g)))) ((↑0:Int)==(most:Int))) ((k:Int))) ((O.l.length:Int))) ([cells false 1 fun (x:Nat)=>ow true 5 m 1,cells false 1 fun (x:Nat)=>int i64 (most:Int),cells false 1 fun (x:Nat)=>fz O.2 1 (O.l.length) fun (i x:Nat)=>ac O.l i,cells false 1 fun (x:Nat)=>fn 78 0 (nth []) 5 (nth [ref 0 0,ref 1 0,ref 2 0,ref 3 0,ref 4 0]),cells false 2 (nth [int i64 p.atoms,ae p.rules]),cells false (m*1) fun (a:Nat)=>fz Fz.auto 1 ((af (L.getD a 0)).l.length) fun (i x:Nat)=>ac (af (L.getD a 0)).l i])) ([cells false 1 fun (x:Nat)=>ow true 6 m' 1,cells false 1 fun (x:Nat)=>int i64 (most:Int),cells false 1 fun (x:Nat)=>fz O.2 1 (O.l.length) fun (i x:Nat)=>ac O.l i,cells false 1 fun (x:Nat)=>fn 78 0 (nth []) 5 (nth [ref 0 0,ref 1 0,ref 2 0,ref 3 0,ref 4 0]),cells false 2 (nth [int i64 p.atoms,ae p.rules]),dead,cells false (m'*1) fun (a:Nat)=>fz Fz.auto 1 ((af (L'.getD a 0)).l.length) fun (i x:Nat)=>ac (af (L'.getD a 0)).l i])) ([cells false 1 fun (x:Nat)=>fz Fz.nil 0 0 fun _ _=>any,cells false 1 fun (x:Nat)=>int i64 (most:Int),cells false 1 fun (x:Nat)=>fz O.2 1 (O.l.length) fun (i x:Nat)=>ac O.l i,cells false 1 fun (x:Nat)=>fn 78 0 (nth []) 5 (nth [ref 0 0,ref 1 0,ref 2 0,ref 3 0,ref 4 0]),cells false 2 (nth [int i64 p.atoms,ae p.rules])])) (fun _=>by kernel_rfl) ⟨by omega,by omega,fun hcc=>(nomatch (hz.symm.trans hcc)),fun _=>⟨by omega,fun _=>⟨by omega,by omega,⟨rfl,(i1 _ _)⟩,by kernel_rfl,by omega,by omega,by omega,by omega,by omega,(fun _ _=>⟨rfl,(et _ _ (by omega) _ _)⟩),⟨rfl,(i2 _ _)⟩,?_⟩,fun hcc=>(nomatch (hb.symm.trans hcc))⟩⟩
    refine ly (.tup 0 (nth [])) _ rfl trivial ?_
    refine ep [0,1,2,3,4,6] 7 ?_ ?_ ?_ ?_ ?_ ?_ ?_
    ·rfl
    ·rfl
    ·rfl
    ·rfl
    ·rfl
    ·exact⟨Af _,trivial⟩
    ·exact⟨⟨rfl,Nat.le_refl _,fun j hj=>Af _⟩,Ai _,Ai _,⟨rfl,Nat.le_refl _,fun j hj=>lz⟩,⟨rfl,Nat.le_refl _,fun j hj=>match j,hj with|0,_=>Af _|1,_=>bp (by exact trivial)⟩,⟨rfl,Nat.le_refl _,fun j hj=>Af _⟩,trivial⟩
 ·intro R _ s m L g hs hL hmL hmm h
  rw[e0] at h
  have h0:0<m:=by rw[hmL];exact List.length_pos_iff.2 hL
  by_cases hf:m=most
  ·have hz:((m:Int)==(most:Int))=true:=by rw[beq_iff_eq];omega
   refine dD (nt:=47) (rs:=[]) (k0:=6) (by kernel_rfl) (by kernel_rfl) (by kernel_rfl) rfl ?_
   refine vcQ [[0,1,1]] (lkL [(0,[0,1,2,4,5,6,9])]) (fun _=>[]) (fun Q=>(fun (u1:St R.σ)=>1<=1/\1<=1/\(((m:Int)==(most:Int))=true->Q AEx.normal u1)/\(((m:Int)==(most:Int))=false->Wp Tryd.prog R 47 6 Rd.top (az Tryd.prog 78) [0,1,1] (aV Tryd.prog R 47 6 Rd.top (az Tryd.prog 78) Q [Kont.blk 0]) u1)) (St.mk [(0,int i64 (k:Int)),(1,int u64 (s:Int)),(2,ref 0 0),(4,ref 2 0),(5,ref 3 0),(6,ref 4 0),(9,AV.bool ((m:Int)==(most:Int)))] [cells false 1 fun (x:Nat)=>ow true 5 m 1,cells false 1 fun (x:Nat)=>int i64 (most:Int),cells false 1 fun (x:Nat)=>fz O.2 1 (O.l.length) fun (i x:Nat)=>ac O.l i,cells false 1 fun (x:Nat)=>fn 78 0 (nth []) 5 (nth [ref 0 0,ref 1 0,ref 2 0,ref 3 0,ref 4 0]),cells false 2 (nth [int i64 p.atoms,ae p.rules]),cells false (m*1) fun (a:Nat)=>fz Fz.auto 1 ((af (L.getD a 0)).l.length) fun (i x:Nat)=>ac (af (L.getD a 0)).l i] g)) (fun _=>by kernel_rfl) ⟨by omega,by omega,fun _=>?_,fun hcc=>(nomatch (hz.symm.trans hcc))⟩
   refine(aq (aR _ _ rfl trivial rfl rfl rfl) (Af _))
  ·have hz:((m:Int)==(most:Int))=false:=by rw[beq_eq_false_iff_ne];omega
   rw[if_neg (by omega)] at h
   obtain⟨t,ht⟩:∃t,s|||2^(O.l.getD k 0).toNat=t:=⟨_,rfl⟩
   have ht24:t<2^24:=by rw[<-ht];exact hor24 s hs
   have hoS:=(hor s hs).trans (congrArg (fun n:Nat=>(n:Int)) ht)
   rw[ht] at h
   have hlen:=dV (p:=p) (most:=most) (r:=r) (s:=s) (out:=L) (by omega)
   have hlen2:=dV (p:=p) (most:=most) (r:=r) (s:=t) (out:=stF p most r s L) hlen.2.1
   rw[h] at hlen2
   have hL1:=hlen.2.2 (by omega)
   rw[hL1] at h
   have i1:=fun (R:Res) [Tab LT R] (g:R.σ)=>ih.on R s m L g hs hL hmL hmm hL1
   have i2:∀(R:Res) [Tab LT R] (g:R.σ),Does Tryd.prog R 78 [.int .i64 ((k:Int)+1),.int .u64 (IntKind.u64.wrap ((BitVec.ofInt 64 (s:Int)|||BitVec.ofInt 64 ((2^(O.l.getD k 0).toNat:Nat):Int)).toNat:Int)),.ref 0 0,.ref 1 0,.ref 2 0,.ref 3 0,.ref 4 0] [.cells false 1 (fun _=>.ow true 5 m 1),.cells false 1 (fun _=>.int .i64 most),.cells false 1 (fun _=>aj O),.cells false 1 (fun _=>.fn 78 0 (nth []) 5 (nth [.ref 0 0,.ref 1 0,.ref 2 0,.ref 3 0,.ref 4 0])),.cells false 2 (nth [.int .i64 p.atoms,ae p.rules]),.cells false (m*1) (aM L)] g (.ret (.tup 0 (nth []))) [.cells false 1 (fun _=>.ow true 5 m 1),.cells false 1 (fun _=>.int .i64 most),.cells false 1 (fun _=>aj O),.cells false 1 (fun _=>.fn 78 0 (nth []) 5 (nth [.ref 0 0,.ref 1 0,.ref 2 0,.ref 3 0,.ref 4 0])),.cells false 2 (nth [.int .i64 p.atoms,ae p.rules]),.cells false (m*1) (aM L)] g:=fun R _ g=>by rw[hoS];exact ih.on R t m L g ht24 hL hmL hmm h
   refine dD (nt:=47) (rs:=[]) (k0:=6) (by kernel_rfl) (by kernel_rfl) (by kernel_rfl) rfl ?_
   refine vcQ [[0,1,0],[0,1,1,1,1]] (lkL [(0,[0,1,2,4,5,6,9]),(1,[0,1,2,4,5,6,14]),(2,[0,1,4,5])]) (lkL [(2,[(4,ROrc.call (tup 0 (nth [])) [cells false 1 fun (x:Nat)=>ow true 5 m 1,cells false 1 fun (x:Nat)=>int i64 (most:Int),cells false 1 fun (x:Nat)=>aj O,cells false 1 fun (x:Nat)=>fn 78 0 (nth []) 5 (nth [ref 0 0,ref 1 0,ref 2 0,ref 3 0,ref 4 0]),cells false 2 (nth [int i64 p.atoms,ae p.rules]),cells false (m*1) (aM L)] g)]),(3,[(8,ROrc.pcall (int u64 (↑(2^(O.l.getD k 0).toNat):Int))),(10,ROrc.callS (tup 0 (nth [])) [(2,cells false 1 fun (x:Nat)=>aj O),(5,cells false (m*1) (aM L))] g)])]) (fun Q=>(fun (u1:List AObj)=>(fun (u2:Int)=>(fun (u3:Int)=>(fun (u4:Bool)=>1<=1/\1<=1/\(u4=true->Wp Tryd.prog R 47 6 Rd.top (az Tryd.prog 78) [0,1,0] (aV Tryd.prog R 47 6 Rd.top (az Tryd.prog 78) Q [Kont.blk 0]) (St.mk [(0,int i64 u3),(1,int u64 (s:Int)),(2,ref 0 0),(4,ref 2 0),(5,ref 3 0),(6,ref 4 0),(9,AV.bool u4)] u1 g))/\(u4=false->1<=1/\(decide (u3<u2)=true->1<=1/\(-9223372036854775808<=u3+1/\u3+1<=9223372036854775807)/\(true=true/\Does Tryd.prog R 78 [int i64 (u3+1),int u64 (s:Int),ref 0 0,ref 1 0,ref 2 0,ref 3 0,ref 4 0] u1 g (ret (tup 0 (nth []))) u1 g)/\Tables.follows Tryd.prog.toTables Departure.mixedOrders=true/\1<=1/\(-9223372036854775808<=u3+1/\u3+1<=9223372036854775807)/\1<=1/\(0<=u3/\u3<u2)/\1<=1/\(∀(hp:List AObj) (g:R.σ),true=true/\Does Tryd.prog R 79 [ac O.l k] hp g (ret (int u64 (↑(2^(O.l.getD k 0).toNat):Int))) hp g)/\(true=true/\Does Tryd.prog R 78 [int i64 (u3+1),int u64 (IntKind.wrap u64 (↑(BitVec.toNat (BitVec.ofInt 64 (s:Int)|||BitVec.ofInt 64 (↑(2^(O.l.getD k 0).toNat):Int))):Int)),ref 0 0,ref 1 0,ref 2 0,ref 3 0,ref 4 0] u1 g (ret (tup 0 (nth []))) u1 g)/\Q AEx.normal (St.mk [] u1 g))/\(decide (u3<u2)=false->Wp Tryd.prog R 47 6 Rd.top (az Tryd.prog 78) [0,1,1,1,1] (aV Tryd.prog R 47 6 Rd.top (az Tryd.prog 78) Q [Kont.blk 0]) (St.mk [(0,int i64 u3),(1,int u64 (s:Int)),(2,ref 0 0),(4,ref 2 0),(5,ref 3 0),(6,ref 4 0),(14,AV.bool (decide (u3<u2)))] u1 g)))) ((m:Int)==(most:Int))) ((k:Int))) ((O.l.length:Int))) ([cells false 1 fun (x:Nat)=>ow true 5 m 1,cells false 1 fun (x:Nat)=>int i64 (most:Int),cells false 1 fun (x:Nat)=>fz O.2 1 (O.l.length) fun (i x:Nat)=>ac O.l i,cells false 1 fun (x:Nat)=>fn 78 0 (nth []) 5 (nth [ref 0 0,ref 1 0,ref 2 0,ref 3 0,ref 4 0]),cells false 2 (nth [int i64 p.atoms,ae p.rules]),cells false (m*1) fun (a:Nat)=>fz Fz.auto 1 ((af (L.getD a 0)).l.length) fun (i x:Nat)=>ac (af (L.getD a 0)).l i])) (fun _=>by kernel_rfl) ⟨by omega,by omega,fun hcc=>(nomatch (hz.symm.trans hcc)),fun _=>⟨by omega,fun _=>⟨by omega,by omega,⟨rfl,(i1 _ _)⟩,by kernel_rfl,by omega,by omega,by omega,by omega,by omega,(fun _ _=>⟨rfl,(et _ _ (by omega) _ _)⟩),⟨rfl,(i2 _ _)⟩,?_⟩,fun hcc=>(nomatch (hb.symm.trans hcc))⟩⟩
   refine(aq (aR _ _ rfl trivial rfl rfl rfl) (Af _))
 ·intro R _ s m m' L L' g hs hL hmL hmm h hm' hne
  rw[e0] at h
  have h0:0<m:=by rw[hmL];exact List.length_pos_iff.2 hL
  have hf:¬m=most:=fun e=>by
   rw[if_pos (by omega)] at h
   subst h
   omega
  have hz:((m:Int)==(most:Int))=false:=by rw[beq_eq_false_iff_ne];omega
  rw[if_neg (by omega)] at h
  obtain⟨t,ht⟩:∃t,s|||2^(O.l.getD k 0).toNat=t:=⟨_,rfl⟩
  have ht24:t<2^24:=by rw[<-ht];exact hor24 s hs
  have hoS:=(hor s hs).trans (congrArg (fun n:Nat=>(n:Int)) ht)
  rw[ht] at h
  have hlen:=dV (p:=p) (most:=most) (r:=r) (s:=s) (out:=L) (by omega)
  obtain⟨L1,hL1⟩:∃L1,stF p most r s L=L1:=⟨_,rfl⟩
  obtain⟨m1,hm1⟩:∃m1,m1=L1.length:=⟨_,rfl⟩
  rw[hL1] at h hlen
  have hlen2:=dV (p:=p) (most:=most) (r:=r) (s:=t) (out:=L1) hlen.2.1
  rw[h] at hlen2
  have h01:0<m1:=by omega
  have h0':0<m':=by omega
  have hmm1:m1<=most:=by omega
  have hmm':m'<=most:=by omega
  have hL1n:L1≠[]:=List.length_pos_iff.1 (by omega)
  by_cases e1:m=m1
  ·have hLL:L1=L:=hlen.2.2 (by omega)
   subst hLL
   have i1:=fun (R:Res) [Tab LT R] (g:R.σ)=>ih.on R s m L1 g hs hL hmL hmm hL1
   have i2:∀(R:Res) [Tab LT R] (g:R.σ),Does Tryd.prog R 78 [.int .i64 ((k:Int)+1),.int .u64 (IntKind.u64.wrap ((BitVec.ofInt 64 (s:Int)|||BitVec.ofInt 64 ((2^(O.l.getD k 0).toNat:Nat):Int)).toNat:Int)),.ref 0 0,.ref 1 0,.ref 2 0,.ref 3 0,.ref 4 0] [.cells false 1 (fun _=>.ow true 5 m 1),.cells false 1 (fun _=>.int .i64 most),.cells false 1 (fun _=>aj O),.cells false 1 (fun _=>.fn 78 0 (nth []) 5 (nth [.ref 0 0,.ref 1 0,.ref 2 0,.ref 3 0,.ref 4 0])),.cells false 2 (nth [.int .i64 p.atoms,ae p.rules]),.cells false (m*1) (aM L1)] g (.ret (.tup 0 (nth []))) [.cells false 1 (fun _=>.ow true 6 m' 1),.cells false 1 (fun _=>.int .i64 most),.cells false 1 (fun _=>aj O),.cells false 1 (fun _=>.fn 78 0 (nth []) 5 (nth [.ref 0 0,.ref 1 0,.ref 2 0,.ref 3 0,.ref 4 0])),.cells false 2 (nth [.int .i64 p.atoms,ae p.rules]),.dead,.cells false (m'*1) (aM L')] g:=fun R _ g=>by rw[hoS];exact ih.ow R t m m' L1 L' g ht24 hL hmL hmm h hm' hne
   refine dD (nt:=47) (rs:=[]) (k0:=6) (by kernel_rfl) (by kernel_rfl) (by kernel_rfl) rfl ?_
   refine vcQ [[0,1,0],[0,1,1,1,1]] (lkL [(0,[0,1,2,4,5,6,9]),(1,[0,1,2,4,5,6,14]),(2,[0,1,4,5])]) (lkL [(2,[(4,ROrc.call (tup 0 (nth [])) [cells false 1 fun (x:Nat)=>ow true 5 m 1,cells false 1 fun (x:Nat)=>int i64 (most:Int),cells false 1 fun (x:Nat)=>aj O,cells false 1 fun (x:Nat)=>fn 78 0 (nth []) 5 (nth [ref 0 0,ref 1 0,ref 2 0,ref 3 0,ref 4 0]),cells false 2 (nth [int i64 p.atoms,ae p.rules]),cells false (m*1) (aM L1)] g)]),(3,[(8,ROrc.pcall (int u64 (↑(2^(O.l.getD k 0).toNat):Int))),(10,ROrc.callN (tup 0 (nth [])) [(0,cells false 1 fun (x:Nat)=>ow true 6 m' 1),(2,cells false 1 fun (x:Nat)=>aj O),(5,dead)] [cells false (m'*1) (aM L')] g)])]) (fun Q=>(fun (u1:List AObj)=>(fun (u2:List AObj)=>(fun (u3:Int)=>(fun (u4:Int)=>(fun (u5:Bool)=>1<=1/\1<=1/\(u5=true->Wp Tryd.prog R 47 6 Rd.top (az Tryd.prog 78) [0,1,0] (aV Tryd.prog R 47 6 Rd.top (az Tryd.prog 78) Q [Kont.blk 0]) (St.mk [(0,int i64 u4),(1,int u64 (s:Int)),(2,ref 0 0),(4,ref 2 0),(5,ref 3 0),(6,ref 4 0),(9,AV.bool u5)] u1 g))/\(u5=false->1<=1/\(decide (u4<u3)=true->1<=1/\(-9223372036854775808<=u4+1/\u4+1<=9223372036854775807)/\(true=true/\Does Tryd.prog R 78 [int i64 (u4+1),int u64 (s:Int),ref 0 0,ref 1 0,ref 2 0,ref 3 0,ref 4 0] u1 g (ret (tup 0 (nth []))) u1 g)/\Tables.follows Tryd.prog.toTables Departure.mixedOrders=true/\1<=1/\(-9223372036854775808<=u4+1/\u4+1<=9223372036854775807)/\1<=1/\(0<=u4/\u4<u3)/\1<=1/\(∀(hp:List AObj) (g:R.σ),true=true/\Does Tryd.prog R 79 [ac O.l k] hp g (ret (int u64 (↑(2^(O.l.getD k 0).toNat):Int))) hp g)/\(true=true/\Does Tryd.prog R 78 [int i64 (u4+1),int u64 (IntKind.wrap u64 (↑(BitVec.toNat (BitVec.ofInt 64 (s:Int)|||BitVec.ofInt 64 (↑(2^(O.l.getD k 0).toNat):Int))):Int)),ref 0 0,ref 1 0,ref 2 0,ref 3 0,ref 4 0] u1 g (ret (tup 0 (nth []))) u2 g)/\Q AEx.normal (St.mk [] u2 g))/\(decide (u4<u3)=false->Wp Tryd.prog R 47 6 Rd.top (az Tryd.prog 78) [0,1,1,1,1] (aV Tryd.prog R 47 6 Rd.top (az Tryd.prog 78) Q [Kont.blk 0]) (St.mk [(0,int i64 u4),(1,int u64 (s:Int)),(2,ref 0 0),(4,ref 2 0),(5,ref 3 0),(6,ref 4 0),(14,AV.bool (decide (u4<u3)))] u1 g)))) ((m:Int)==(most:Int))) ((k:Int))) ((O.l.length:Int))) ([cells false 1 fun (x:Nat)=>ow true 6 m' 1,cells false 1 fun (x:Nat)=>int i64 (most:Int),cells false 1 fun (x:Nat)=>fz O.2 1 (O.l.length) fun (i x:Nat)=>ac O.l i,cells false 1 fun (x:Nat)=>fn 78 0 (nth []) 5 (nth [ref 0 0,ref 1 0,ref 2 0,ref 3 0,ref 4 0]),cells false 2 (nth [int i64 p.atoms,ae p.rules]),dead,cells false (m'*1) fun (a:Nat)=>fz Fz.auto 1 ((af (L'.getD a 0)).l.length) fun (i x:Nat)=>ac (af (L'.getD a 0)).l i])) ([cells false 1 fun (x:Nat)=>ow true 5 m 1,cells false 1 fun (x:Nat)=>int i64 (most:Int),cells false 1 fun (x:Nat)=>fz O.2 1 (O.l.length) fun (i x:Nat)=>ac O.l i,cells false 1 fun (x:Nat)=>fn 78 0 (nth []) 5 (nth [ref 0 0,ref 1 0,ref 2 0,ref 3 0,ref 4 0]),cells false 2 (nth [int i64 p.atoms,ae p.rules]),cells false (m*1) fun (a:Nat)=>fz Fz.auto 1 ((af (L1.getD a 0)).l.length) fun (i x:Nat)=>ac (af (L1.getD a 0)).l i])) (fun _=>by kernel_rfl) ⟨by omega,by omega,fun hcc=>(nomatch (hz.symm.trans hcc)),fun _=>⟨by omega,fun _=>⟨by omega,by omega,⟨rfl,(i1 _ _)⟩,by kernel_rfl,by omega,by omega,by omega,by omega,by omega,(fun _ _=>⟨rfl,(et _ _ (by omega) _ _)⟩),⟨rfl,(i2 _ _)⟩,?_⟩,fun hcc=>(nomatch (hb.symm.trans hcc))⟩⟩
   refine(aq (aR _ _ rfl trivial rfl rfl rfl) (Af _))
  ·have i1:=fun (R:Res) [Tab LT R] (g:R.σ)=>ih.ow R s m m1 L L1 g hs hL hmL hmm hL1 hm1 e1
   by_cases e2:m1=m'
   ·have hLL:L'=L1:=hlen2.2.2 (by omega)
    subst hLL
    subst e2
    have i2:∀(R:Res) [Tab LT R] (g:R.σ),Does Tryd.prog R 78 [.int .i64 ((k:Int)+1),.int .u64 (IntKind.u64.wrap ((BitVec.ofInt 64 (s:Int)|||BitVec.ofInt 64 ((2^(O.l.getD k 0).toNat:Nat):Int)).toNat:Int)),.ref 0 0,.ref 1 0,.ref 2 0,.ref 3 0,.ref 4 0] [.cells false 1 (fun _=>.ow true 5 m1 1),.cells false 1 (fun _=>.int .i64 most),.cells false 1 (fun _=>aj O),.cells false 1 (fun _=>.fn 78 0 (nth []) 5 (nth [.ref 0 0,.ref 1 0,.ref 2 0,.ref 3 0,.ref 4 0])),.cells false 2 (nth [.int .i64 p.atoms,ae p.rules]),.cells false (m1*1) (aM L')] g (.ret (.tup 0 (nth []))) [.cells false 1 (fun _=>.ow true 5 m1 1),.cells false 1 (fun _=>.int .i64 most),.cells false 1 (fun _=>aj O),.cells false 1 (fun _=>.fn 78 0 (nth []) 5 (nth [.ref 0 0,.ref 1 0,.ref 2 0,.ref 3 0,.ref 4 0])),.cells false 2 (nth [.int .i64 p.atoms,ae p.rules]),.cells false (m1*1) (aM L')] g:=fun R _ g=>by rw[hoS];exact ih.on R t m1 L' g ht24 hL1n hm1 hmm1 h
    refine dD (nt:=47) (rs:=[]) (k0:=6) (by kernel_rfl) (by kernel_rfl) (by kernel_rfl) rfl ?_
    refine vcQ [[0,1,0],[0,1,1,1,1]] (lkL [(0,[0,1,2,4,5,6,9]),(1,[0,1,2,4,5,6,14]),(2,[0,1,4,5])]) (lkL [(2,[(4,ROrc.call (tup 0 (nth [])) [cells false 1 fun (x:Nat)=>ow true 6 m1 1,cells false 1 fun (x:Nat)=>int i64 (most:Int),cells false 1 fun (x:Nat)=>aj O,cells false 1 fun (x:Nat)=>fn 78 0 (nth []) 5 (nth [ref 0 0,ref 1 0,ref 2 0,ref 3 0,ref 4 0]),cells false 2 (nth [int i64 p.atoms,ae p.rules]),dead,cells false (m1*1) (aM L')] g)]),(3,[(8,ROrc.pcall (int u64 (↑(2^(O.l.getD k 0).toNat):Int))),(10,ROrc.kcall (tup 0 (nth [])))])]) (fun Q=>(fun (u1:List AObj)=>(fun (u2:List AObj)=>(fun (u3:Int)=>(fun (u4:Int)=>(fun (u5:Bool)=>1<=1/\1<=1/\(u5=true->Wp Tryd.prog R 47 6 Rd.top (az Tryd.prog 78) [0,1,0] (aV Tryd.prog R 47 6 Rd.top (az Tryd.prog 78) Q [Kont.blk 0]) (St.mk [(0,int i64 u4),(1,int u64 (s:Int)),(2,ref 0 0),(4,ref 2 0),(5,ref 3 0),(6,ref 4 0),(9,AV.bool u5)] u2 g))/\(u5=false->1<=1/\(decide (u4<u3)=true->1<=1/\(-9223372036854775808<=u4+1/\u4+1<=9223372036854775807)/\(true=true/\Does Tryd.prog R 78 [int i64 (u4+1),int u64 (s:Int),ref 0 0,ref 1 0,ref 2 0,ref 3 0,ref 4 0] u2 g (ret (tup 0 (nth []))) u1 g)/\Tables.follows Tryd.prog.toTables Departure.mixedOrders=true/\1<=1/\(-9223372036854775808<=u4+1/\u4+1<=9223372036854775807)/\1<=1/\(0<=u4/\u4<u3)/\1<=1/\(∀(hp:List AObj) (g:R.σ),true=true/\Does Tryd.prog R 79 [ac O.l k] hp g (ret (int u64 (↑(2^(O.l.getD k 0).toNat):Int))) hp g)/\(true=true/\Does Tryd.prog R 78 [int i64 (u4+1),int u64 (IntKind.wrap u64 (↑(BitVec.toNat (BitVec.ofInt 64 (s:Int)|||BitVec.ofInt 64 (↑(2^(O.l.getD k 0).toNat):Int))):Int)),ref 0 0,ref 1 0,ref 2 0,ref 3 0,ref 4 0] u1 g (ret (tup 0 (nth []))) u1 g)/\Q AEx.normal (St.mk [] u1 g))/\(decide (u4<u3)=false->Wp Tryd.prog R 47 6 Rd.top (az Tryd.prog 78) [0,1,1,1,1] (aV Tryd.prog R 47 6 Rd.top (az Tryd.prog 78) Q [Kont.blk 0]) (St.mk [(0,int i64 u4),(1,int u64 (s:Int)),(2,ref 0 0),(4,ref 2 0),(5,ref 3 0),(6,ref 4 0),(14,AV.bool (decide (u4<u3)))] u2 g)))) ((m:Int)==(most:Int))) ((k:Int))) ((O.l.length:Int))) ([cells false 1 fun (x:Nat)=>ow true 5 m 1,cells false 1 fun (x:Nat)=>int i64 (most:Int),cells false 1 fun (x:Nat)=>fz O.2 1 (O.l.length) fun (i x:Nat)=>ac O.l i,cells false 1 fun (x:Nat)=>fn 78 0 (nth []) 5 (nth [ref 0 0,ref 1 0,ref 2 0,ref 3 0,ref 4 0]),cells false 2 (nth [int i64 p.atoms,ae p.rules]),cells false (m*1) fun (a:Nat)=>fz Fz.auto 1 ((af (L.getD a 0)).l.length) fun (i x:Nat)=>ac (af (L.getD a 0)).l i])) ([cells false 1 fun (x:Nat)=>ow true 6 m1 1,cells false 1 fun (x:Nat)=>int i64 (most:Int),cells false 1 fun (x:Nat)=>fz O.2 1 (O.l.length) fun (i x:Nat)=>ac O.l i,cells false 1 fun (x:Nat)=>fn 78 0 (nth []) 5 (nth [ref 0 0,ref 1 0,ref 2 0,ref 3 0,ref 4 0]),cells false 2 (nth [int i64 p.atoms,ae p.rules]),dead,cells false (m1*1) fun (a:Nat)=>fz Fz.auto 1 ((af (L'.getD a 0)).l.length) fun (i x:Nat)=>ac (af (L'.getD a 0)).l i])) (fun _=>by kernel_rfl) ⟨by omega,by omega,fun hcc=>(nomatch (hz.symm.trans hcc)),fun _=>⟨by omega,fun _=>⟨by omega,by omega,⟨rfl,(i1 _ _)⟩,by kernel_rfl,by omega,by omega,by omega,by omega,by omega,(fun _ _=>⟨rfl,(et _ _ (by omega) _ _)⟩),⟨rfl,(eN (T:=LT) inferInstance [0,1,2,3,4,6] 7 (fun R _ g=>i2 R g) rfl rfl rfl (by exact⟨⟨rfl,Nat.le_refl _,fun j hj=>match j,hj with|0,_=>(Af _) ⟩,⟨rfl,Nat.le_refl _,fun j hj=>match j,hj with|0,_=>(Af _) ⟩,⟨rfl,Nat.le_refl _,fun j hj=>match j,hj with|0,_=>(Af _) ⟩,⟨rfl,Nat.le_refl _,fun j hj=>match j,hj with|0,_=>(Le.fn (fun i hi=>absurd hi (by omega)) (fun i hi=>match i,hi with|0,_=>(Af _)|1,_=>(Af _)|2,_=>(Af _)|3,_=>(Af _)|4,_=>(Af _) )) ⟩,⟨rfl,Nat.le_refl _,fun j hj=>match j,hj with|0,_=>(Af _)|1,_=>(Af _) ⟩,⟨rfl,Nat.le_refl _,fun j hj=>(by first|exact bp (by first|exact trivial|apply fj)|exact Ag (gu rfl).symm)⟩,trivial⟩) (by exact⟨by omega,by omega,by omega,by omega,by omega,by omega,trivial⟩) (by exact⟨bp (by exact trivial),bp (by exact trivial),Af _,Af _,Af _,Af _,Af _,trivial⟩) (by exact bC (by exact trivial)) (by exact⟨⟨rfl,Nat.le_refl _,fun j hj=>match j,hj with|0,_=>(Af _) ⟩,⟨rfl,Nat.le_refl _,fun j hj=>match j,hj with|0,_=>(Af _) ⟩,⟨rfl,Nat.le_refl _,fun j hj=>match j,hj with|0,_=>(Af _) ⟩,⟨rfl,Nat.le_refl _,fun j hj=>match j,hj with|0,_=>(Le.fn (fun i hi=>absurd hi (by omega)) (fun i hi=>match i,hi with|0,_=>(Af _)|1,_=>(Af _)|2,_=>(Af _)|3,_=>(Af _)|4,_=>(Af _) )) ⟩,⟨rfl,Nat.le_refl _,fun j hj=>match j,hj with|0,_=>(Af _)|1,_=>(Af _) ⟩,trivial,⟨rfl,Nat.le_refl _,fun j hj=>(by first|exact bC (by first|exact trivial|apply fj)|exact Ag (gu rfl))⟩,trivial⟩))⟩,?_⟩,fun hcc=>(nomatch (hb.symm.trans hcc))⟩⟩
    refine(aq (aR _ _ rfl trivial rfl rfl rfl) (Af _))
   ·have i2:∀(R:Res) [Tab LT R] (g:R.σ),Does Tryd.prog R 78 [.int .i64 ((k:Int)+1),.int .u64 (IntKind.u64.wrap ((BitVec.ofInt 64 (s:Int)|||BitVec.ofInt 64 ((2^(O.l.getD k 0).toNat:Nat):Int)).toNat:Int)),.ref 0 0,.ref 1 0,.ref 2 0,.ref 3 0,.ref 4 0] [.cells false 1 (fun _=>.ow true 5 m1 1),.cells false 1 (fun _=>.int .i64 most),.cells false 1 (fun _=>aj O),.cells false 1 (fun _=>.fn 78 0 (nth []) 5 (nth [.ref 0 0,.ref 1 0,.ref 2 0,.ref 3 0,.ref 4 0])),.cells false 2 (nth [.int .i64 p.atoms,ae p.rules]),.cells false (m1*1) (aM L1)] g (.ret (.tup 0 (nth []))) [.cells false 1 (fun _=>.ow true 6 m' 1),.cells false 1 (fun _=>.int .i64 most),.cells false 1 (fun _=>aj O),.cells false 1 (fun _=>.fn 78 0 (nth []) 5 (nth [.ref 0 0,.ref 1 0,.ref 2 0,.ref 3 0,.ref 4 0])),.cells false 2 (nth [.int .i64 p.atoms,ae p.rules]),.dead,.cells false (m'*1) (aM L')] g:=fun R _ g=>by rw[hoS];exact ih.ow R t m1 m' L1 L' g ht24 hL1n hm1 hmm1 h hm' e2
    refine dD (nt:=47) (rs:=[]) (k0:=6) (by kernel_rfl) (by kernel_rfl) (by kernel_rfl) rfl ?_
    refine vcQ [[0,1,0],[0,1,1,1,1]] (lkL [(0,[0,1,2,4,5,6,9]),(1,[0,1,2,4,5,6,14]),(2,[0,1,4,5])]) (lkL [(2,[(4,ROrc.call (tup 0 (nth [])) [cells false 1 fun (x:Nat)=>ow true 6 m1 1,cells false 1 fun (x:Nat)=>int i64 (most:Int),cells false 1 fun (x:Nat)=>aj O,cells false 1 fun (x:Nat)=>fn 78 0 (nth []) 5 (nth [ref 0 0,ref 1 0,ref 2 0,ref 3 0,ref 4 0]),cells false 2 (nth [int i64 p.atoms,ae p.rules]),dead,cells false (m1*1) (aM L1)] g)]),(3,[(8,ROrc.pcall (int u64 (↑(2^(O.l.getD k 0).toNat):Int))),(10,ROrc.callN (tup 0 (nth [])) [(0,cells false 1 fun (j:Nat)=>ow true 7 m' 1),(6,dead)] [cells false (m'*1) (aM L')] g)])]) (fun Q=>(fun (u1:List AObj)=>(fun (u2:List AObj)=>(fun (u3:List AObj)=>(fun (u4:Int)=>(fun (u5:Int)=>(fun (u6:Bool)=>1<=1/\1<=1/\(u6=true->Wp Tryd.prog R 47 6 Rd.top (az Tryd.prog 78) [0,1,0] (aV Tryd.prog R 47 6 Rd.top (az Tryd.prog 78) Q [Kont.blk 0]) (St.mk [(0,int i64 u5),(1,int u64 (s:Int)),(2,ref 0 0),(4,ref 2 0),(5,ref 3 0),(6,ref 4 0),(9,AV.bool u6)] u1 g))/\(u6=false->1<=1/\(decide (u5<u4)=true->1<=1/\(-9223372036854775808<=u5+1/\u5+1<=9223372036854775807)/\(true=true/\Does Tryd.prog R 78 [int i64 (u5+1),int u64 (s:Int),ref 0 0,ref 1 0,ref 2 0,ref 3 0,ref 4 0] u1 g (ret (tup 0 (nth []))) u3 g)/\Tables.follows Tryd.prog.toTables Departure.mixedOrders=true/\1<=1/\(-9223372036854775808<=u5+1/\u5+1<=9223372036854775807)/\1<=1/\(0<=u5/\u5<u4)/\1<=1/\(∀(hp:List AObj) (g:R.σ),true=true/\Does Tryd.prog R 79 [ac O.l k] hp g (ret (int u64 (↑(2^(O.l.getD k 0).toNat):Int))) hp g)/\(true=true/\Does Tryd.prog R 78 [int i64 (u5+1),int u64 (IntKind.wrap u64 (↑(BitVec.toNat (BitVec.ofInt 64 (s:Int)|||BitVec.ofInt 64 (↑(2^(O.l.getD k 0).toNat):Int))):Int)),ref 0 0,ref 1 0,ref 2 0,ref 3 0,ref 4 0] u3 g (ret (tup 0 (nth []))) u2 g)/\Q AEx.normal (St.mk [] u2 g))/\(decide (u5<u4)=false->Wp Tryd.prog R 47 6 Rd.top (az Tryd.prog 78) [0,1,1,1,1] (aV Tryd.prog R 47 6 Rd.top (az Tryd.prog 78) Q [Kont.blk 0]) (St.mk [(0,int i64 u5),(1,int u64 (s:Int)),(2,ref 0 0),(4,ref 2 0),(5,ref 3 0),(6,ref 4 0),(14,AV.bool (decide (u5<u4)))] u1 g)))) ((m:Int)==(most:Int))) ((k:Int))) ((O.l.length:Int))) ([cells false 1 fun (x:Nat)=>ow true 6 m1 1,cells false 1 fun (x:Nat)=>int i64 (most:Int),cells false 1 fun (x:Nat)=>fz O.2 1 (O.l.length) fun (i x:Nat)=>ac O.l i,cells false 1 fun (x:Nat)=>fn 78 0 (nth []) 5 (nth [ref 0 0,ref 1 0,ref 2 0,ref 3 0,ref 4 0]),cells false 2 (nth [int i64 p.atoms,ae p.rules]),dead,cells false (m1*1) fun (a:Nat)=>fz Fz.auto 1 ((af (L1.getD a 0)).l.length) fun (i x:Nat)=>ac (af (L1.getD a 0)).l i])) ([cells false 1 fun (j:Nat)=>ow true 7 m' 1,cells false 1 fun (x:Nat)=>int i64 (most:Int),cells false 1 fun (x:Nat)=>fz O.2 1 (O.l.length) fun (i x:Nat)=>ac O.l i,cells false 1 fun (x:Nat)=>fn 78 0 (nth []) 5 (nth [ref 0 0,ref 1 0,ref 2 0,ref 3 0,ref 4 0]),cells false 2 (nth [int i64 p.atoms,ae p.rules]),dead,dead,cells false (m'*1) fun (a:Nat)=>fz Fz.auto 1 ((af (L'.getD a 0)).l.length) fun (i x:Nat)=>ac (af (L'.getD a 0)).l i])) ([cells false 1 fun (x:Nat)=>ow true 5 m 1,cells false 1 fun (x:Nat)=>int i64 (most:Int),cells false 1 fun (x:Nat)=>fz O.2 1 (O.l.length) fun (i x:Nat)=>ac O.l i,cells false 1 fun (x:Nat)=>fn 78 0 (nth []) 5 (nth [ref 0 0,ref 1 0,ref 2 0,ref 3 0,ref 4 0]),cells false 2 (nth [int i64 p.atoms,ae p.rules]),cells false (m*1) fun (a:Nat)=>fz Fz.auto 1 ((af (L.getD a 0)).l.length) fun (i x:Nat)=>ac (af (L.getD a 0)).l i])) (fun _=>by kernel_rfl) ⟨by omega,by omega,fun hcc=>(nomatch (hz.symm.trans hcc)),fun _=>⟨by omega,fun _=>⟨by omega,by omega,⟨rfl,(i1 _ _)⟩,by kernel_rfl,by omega,by omega,by omega,by omega,by omega,(fun _ _=>⟨rfl,(et _ _ (by omega) _ _)⟩),⟨rfl,(eN (T:=LT) inferInstance [0,1,2,3,4,6] 7 (fun R _ g=>i2 R g) rfl rfl rfl (by exact⟨⟨rfl,Nat.le_refl _,fun j hj=>match j,hj with|0,_=>(Af _) ⟩,⟨rfl,Nat.le_refl _,fun j hj=>match j,hj with|0,_=>(Af _) ⟩,⟨rfl,Nat.le_refl _,fun j hj=>match j,hj with|0,_=>(Af _) ⟩,⟨rfl,Nat.le_refl _,fun j hj=>match j,hj with|0,_=>(Le.fn (fun i hi=>absurd hi (by omega)) (fun i hi=>match i,hi with|0,_=>(Af _)|1,_=>(Af _)|2,_=>(Af _)|3,_=>(Af _)|4,_=>(Af _) )) ⟩,⟨rfl,Nat.le_refl _,fun j hj=>match j,hj with|0,_=>(Af _)|1,_=>(Af _) ⟩,⟨rfl,Nat.le_refl _,fun j hj=>(by first|exact bp (by first|exact trivial|apply fj)|exact Ag (gu rfl).symm)⟩,trivial⟩) (by exact⟨by omega,by omega,by omega,by omega,by omega,by omega,trivial⟩) (by exact⟨bp (by exact trivial),bp (by exact trivial),Af _,Af _,Af _,Af _,Af _,trivial⟩) (by exact bC (by exact trivial)) (by exact⟨Ah,⟨rfl,Nat.le_refl _,fun j hj=>match j,hj with|0,_=>(Af _) ⟩,⟨rfl,Nat.le_refl _,fun j hj=>match j,hj with|0,_=>(Af _) ⟩,⟨rfl,Nat.le_refl _,fun j hj=>match j,hj with|0,_=>(Le.fn (fun i hi=>absurd hi (by omega)) (fun i hi=>match i,hi with|0,_=>(Af _)|1,_=>(Af _)|2,_=>(Af _)|3,_=>(Af _)|4,_=>(Af _) )) ⟩,⟨rfl,Nat.le_refl _,fun j hj=>match j,hj with|0,_=>(Af _)|1,_=>(Af _) ⟩,trivial,trivial,⟨rfl,Nat.le_refl _,fun j hj=>(by first|exact bC (by first|exact trivial|apply fj)|exact Ag (gu rfl))⟩,trivial⟩))⟩,?_⟩,fun hcc=>(nomatch (hb.symm.trans hcc))⟩⟩
    refine ly (.tup 0 (nth [])) _ rfl trivial ?_
    refine ep [0,1,2,3,4,5,7] 8 ?_ ?_ ?_ ?_ ?_ ?_ ?_
    ·rfl
    ·rfl
    ·rfl
    ·rfl
    ·rfl
    ·exact⟨Af _,trivial⟩
    ·exact⟨⟨rfl,Nat.le_refl _,fun j hj=>Af _⟩,Ai _,Ai _,⟨rfl,Nat.le_refl _,fun j hj=>lz⟩,⟨rfl,Nat.le_refl _,fun j hj=>match j,hj with|0,_=>Af _|1,_=>bp (by exact trivial)⟩,trivial,⟨rfl,Nat.le_refl _,fun j hj=>Af _⟩,trivial⟩
def cb (p:Prg):Nat:=aD (ai p).2 3 p.atoms.toNat
def cg (p:Prg):Nat:=aD (ai p).2 2 p.atoms.toNat
def stP (p:Prg)(most:Nat):List Nat:=stF p most (aB (cb p)) (cg p) []
theorem nX {p:Prg}{most:Nat}{O:KL Int}(hm:1<=most/\most<=100)(hO:O.l.length<=10)(hOa:∀a,a∈O.l->0<=a/\a<24)(hl:p.rules.l.length<1000000)(hr:∀r,r∈p.rules.l->aP r):∀(j k:Nat),k+j=O.l.length->FromC p most O (O.l.drop k) (k:Int)
 |0,k,h=>by
  have hk:k=O.l.length:=by omega
  subst hk
  rw[List.drop_length]
  exact yX hm hO hl hr
 |j+1,k,h=>by
  rw[fl O.l 0 (show k<O.l.length by omega)]
  exact yY hm hO omg (hOa _ (bO O.l 0 omg)) (nX hm hO hOa hl hr j (k+1) omg)
theorem sb {s:Nat}:∀a,a∈(af s).l->0<=a/\a<24:=by
 intro a ha
 obtain⟨b,hb,rfl⟩:=List.mem_map.1 (show a∈(ak s).map (fun (a:Nat)=>(a:Int)) from ha)
 have:=jt hb
 omega
theorem yZ (R:Res)[Tab LT R](p:Prg)(most:Nat)(hb:aF p=true)(hm:1<=most/\most<=100)(hO:10<(aB (cb p)).length)(g:R.σ):Does Tryd.prog R 27 [av p,.int .i64 most] [] g (.ret (.tup 2 (nth [.fz .nil 0 0 (fun _ _=>.any),.int .i64 8]))) [] g:=by
 obtain⟨hl,hr,hp,hh,hx⟩:=eT hb
 have hs:eq p:=gG hb
 have hp':1<=p.atoms/\p.atoms<=24:=hp
 have hc:(bif ((if aF p then(0:Int) else 2) != 0) then true else !decide (1<=(most:Int)/\(most:Int)<=100))=false:=by
  rw[hb,decide_eq_true omg]
  rfl
 have hD:=fun (R:Res) [Tab LT R] (g:R.σ)=>ll R p hl hr hp hh g
 have hC:=fun (R:Res) [Tab LT R] (s:Nat) (hs:s<2^24) (g:R.σ)=>ix R s hs g
 have hlt:aD (ai p).2 3 p.atoms.toNat<2^24:=gF omg
 have hS:=fun (R:Res) (g:R.σ)=>jG R (ai p).2 p.atoms 3 omg g
 have hgt:decide ((10:Int)<((af (aD (ai p).2 3 p.atoms.toNat)).l.length:Int))=true:=decide_eq_true (by
  have hO:10<(af (aD (ai p).2 3 p.atoms.toNat)).l.length:=hO
  omega)
 refine spW (nt:=45) (rs:=[.tmp 4,.tmp 5]) (k0:=0) ?_
 refine vcR [[1,0,1,0],[1,1,1,1,0,1,1]] (lkL [(0,[2,3]),(1,[2,3,18]),(3,[2,3,7]),(4,[2,3,7,8]),(5,[2,3,7,8,34]),(6,[4,5])]) (lkL [(1,[(1,ROrc.pcall (i6 (if aF p=true then 0 else 2))),(5,ROrc.pcall (AV.bool (decide (1<=(↑most:Int)/\(↑most:Int)<=100))))]),(3,[(1,ROrc.call (tup 2 (nth [fz Fz.auto 2 (List.length (bm (ai p).fst).l) fun (i:Nat)=>dQ (List.getD (bm (ai p).fst).l i default),ref 2 0])) [cO 2 (nth [i6 p.atoms,ae p.rules]),cO 1 fun (a:Nat)=>i6 (↑most:Int),cO 27 (aH (ai p).snd)] g)]),(4,[(5,ROrc.lcall (int u64 (↑(aD (ai p).snd 3 (Int.toNat p.atoms)):Int)) [2]),(6,ROrc.callN (fn 105 0 (nth []) 1 (nth [ref (List.length [cO 2 (nth [i6 p.atoms,ae p.rules]),cO 1 fun (a:Nat)=>i6 (↑most:Int),cO 27 (aH (ai p).snd)]) 0])) [] [cO 1 fun (x:Nat)=>int u64 (↑(aD (ai p).snd 3 (Int.toNat p.atoms)):Int)] g),(7,ROrc.callS (fz Fz.auto 1 (List.length (af (aD (ai p).snd 3 (Int.toNat p.atoms))).l) fun (i x:Nat)=>ac (af (aD (ai p).snd 3 (Int.toNat p.atoms))).l i) [(3,cO 1 fun (j:Nat)=>any)] g),(9,ROrc.val (Orc.obj (nth [fz Fz.auto 1 (List.length (af (aD (ai p).snd 3 (Int.toNat p.atoms))).l) fun (i x:Nat)=>ac (af (aD (ai p).snd 3 (Int.toNat p.atoms))).l i])))])]) (fun Q=>(fun (u1:List Int)=>(fun (u2:AObj)=>(fun (u3:AObj)=>(fun (u4:Int)=>(fun (u5:AV)=>(fun (u6:AObj)=>(fun (u7:Bool)=>(fun (u8:AV)=>(fun (u9:Int)=>(fun (u10:List AObj)=>(fun (u11:Int)=>2<=2/\(∀(hp:List AObj) (g:R.σ),true=true/\Does Tryd.prog R 16 [av p] hp g (ret (i6 u11)) hp g)/\((!u11 != 0)=true->1<=1)/\((!u11 != 0)=true->∀(hp:List AObj) (g:R.σ),true=true/\Does Tryd.prog R 58 [i6 u4,i6 1,i6 100] hp g (ret (AV.bool (decide (1<=u4/\u4<=100)))) hp g)/\(u7=true->WpC Tryd.prog R 45 0 27 [1,0,1,0] Q [Kont.seq [1,1]] (St.mk [(2,ref 0 0),(3,ref 1 0),(18,AV.bool u7)] [u2,u3] g))/\(u7=false->2<=2/\(true=true/\Does Tryd.prog R 60 [av p] [u2,u3] g (ret (tup 2 (nth [fz Fz.auto 2 (List.length (bm (ai p).fst).l) fun i=>dQ (List.getD (bm (ai p).fst).l i default),ref 2 0]))) [u2,u3,u6] g)/\Flw Tryd.prog/\1<=2/\(∀(hp':List AObj) (g':R.σ),SameO [2] [u2,u3,u6] hp'->true=true/\Does Tryd.prog R 76 [ref 2 2,i6 p.atoms,i6 3] hp' g' (ret u8) hp' g')/\(true=true/\Does Tryd.prog R 77 [u8] [u2,u3,u6] g (ret (fn 105 0 (nth []) 1 (nth [ref 3 0]))) [u2,u3,u6,cO 1 fun x=>u8] g)/\(true=true/\Does Tryd.prog R 75 [fn 105 0 (nth []) 1 (nth [ref 3 0])] [u2,u3,u6,cO 1 fun x=>u8] g (ret u5) [u2,u3,u6,cO 1 fun j=>any] g)/\1<=1/\(∀(c:Nat),c<1->nth [u5] c=am (fun (a:Nat)=>fz Fz.nil 0 0 fun x x_1=>any) 0 1 (fun (x:Nat)=>u5) c)/\1<=1/\(decide (u9 > 10)=true->Q AEx.ret (St.mk [(4,fz Fz.nil 0 0 fun x x_1=>any),(5,i6 8)] u10 g))/\(decide (u9 > 10)=false->WpC Tryd.prog R 45 0 27 [1,1,1,1,0,1,1] Q [Kont.seq [1,1,1,1,1]] (St.mk [(2,ref 0 0),(3,ref 1 0),(7,ref 2 0),(8,ref 4 0),(34,AV.bool (decide (u9 > 10)))] u10 g)))) (if aF p=true then 0 else 2)) ([u2,u3,u6,cO 1 fun j=>any,cO 1 (nth [u5])])) ((↑(List.length u1):Int))) (int u64 (↑(aD (ai p).snd 3 (Int.toNat p.atoms)):Int))) (bif (if aF p=true then 0 else 2) != 0 then true else !decide (1<=u4/\u4<=100))) (cO 27 (aH (ai p).snd))) (fz Fz.auto 1 (List.length u1) fun i x=>ac u1 i)) ((↑most:Int))) (cO 1 fun a=>i6 (↑most:Int))) (cO 2 (nth [i6 p.atoms,ae p.rules]))) ((af (aD (ai p).snd 3 (Int.toNat p.atoms))).l)) ⟨omg,(fun _ _=>⟨rfl,(gw _ _ _ _ omg)⟩),omg,(fun hgd=>(fun _ _=>⟨rfl,(d9 _ _ _ _ _ _)⟩)),fun hcc=>(nomatch (hc.symm.trans hcc)),fun _=>⟨omg,⟨rfl,(doT (T:=LT) [] 2 (fun R _ g=>hD R g))⟩,krf,omg,?_,⟨rfl,(dg _ _ _ _)⟩,⟨rfl,(doT (T:=LT) [3] 4 (fun R _ g=>hC R (aD (ai p).snd 3 (Int.toNat p.atoms)) omg g))⟩,omg,(fun c hc=>match c,hc with|0,_=>krf ),omg,fun _=>?_,fun hcc=>(nomatch (hgt.symm.trans hcc))⟩⟩
 ·intro hp' g' hs'
  exact⟨rfl,ij [2] (fun R g=>hS R g) (by exact⟨rfl,trivial⟩) rfl (by exact fun n=>⟨Ap (fun j hj=>(cJ trivial).symm),trivial⟩) ⟨omg,trivial⟩ (by exact fun n=>⟨Af _,Af _,Af _,trivial⟩) rfl (by exact fun n=>Af _) (by exact fun n=>⟨Ap (fun j hj=>cJ trivial),trivial⟩) hp' g' hs'⟩
 ·refine(aq (bA _ _ rfl trivial ⟨⟨trivial,trivial⟩,trivial⟩ rfl) (Af _))
theorem y0 (R:Res)[Tab LT R](p:Prg)(most:Nat)(hb:aF p=true)(hm:1<=most/\most<=100)(hO:(aB (cb p)).length<=10)(hN:stP p most=[])(g:R.σ):Does Tryd.prog R 27 [av p,.int .i64 most] [] g (.ret (.tup 2 (nth [.fz .nil 0 0 (fun _ _=>.any),.int .i64 0]))) [] g:=by
 obtain⟨hl,hr,hp,hh,hx⟩:=eT hb
 have hs:eq p:=gG hb
 have hp':1<=p.atoms/\p.atoms<=24:=hp
 have hc:(bif ((if aF p then(0:Int) else 2) != 0) then true else !decide (1<=(most:Int)/\(most:Int)<=100))=false:=by
  rw[hb,decide_eq_true (by omega)]
  rfl
 have hD:=fun (R:Res) [Tab LT R] (g:R.σ)=>ll R p hl hr hp hh g
 have hC:=fun (R:Res) [Tab LT R] (s:Nat) (hs:s<2^24) (g:R.σ)=>ix R s hs g
 have hlt:aD (ai p).2 3 p.atoms.toNat<2^24:=gF (by omega)
 have hS:=fun (R:Res) (g:R.σ)=>jG R (ai p).2 p.atoms 3 (by omega) g
 have hS2:=fun (R:Res) (g:R.σ)=>jG R (ai p).2 p.atoms 2 (by omega) g
 have hgt:decide ((10:Int)<((af (aD (ai p).2 3 p.atoms.toNat)).l.length:Int))=false:=decide_eq_false (by
  have hO:(af (aD (ai p).2 3 p.atoms.toNat)).l.length<=10:=hO
  omega)
 have hF0:=(nX (p:=p) (most:=most) (O:=af (cb p)) hm hO sb hl hr (af (cb p)).l.length 0 (by omega)).nn
 rw[List.drop_zero] at hF0
 have hF:=fun (R:Res) [Tab LT R] (g:R.σ)=>hF0 R (cg p) g (gF (by omega)) hN
 unfold cg cb at hF
 clear hF0
 refine dD (nt:=45) (rs:=[.tmp 4,.tmp 5]) (k0:=0) (by kernel_rfl) (by kernel_rfl) (by kernel_rfl) rfl ?_
 refine vcQ [[1,0,1,0],[1,1,1,1,0,1,0]] (lkL [(0,[2,3]),(1,[2,3,18]),(3,[2,3,7]),(4,[2,3,7,8]),(5,[2,3,7,8,34]),(7,[2,3,7,8,9]),(8,[2,3,7,8,9,10]),(9,[2,7,9,10]),(10,[9]),(11,[4,5])]) (lkL [(1,[(1,ROrc.pcall (int i64 (if aF p=true then 0 else 2))),(5,ROrc.pcall (AV.bool (decide (1<=(most:Int)/\(most:Int)<=100))))]),(3,[(1,ROrc.call (tup 2 (nth [fz Fz.auto 2 ((bm (ai p).fst).l.length) fun (i:Nat)=>dQ ((bm (ai p).fst).l.getD i default),ref 2 0])) [cells false 2 (nth [int i64 p.atoms,ae p.rules]),cells false 1 fun (a:Nat)=>int i64 (most:Int),cells false 27 (aH (ai p).snd)] g)]),(4,[(5,ROrc.lcall (int u64 (↑(aD (ai p).snd 3 (p.atoms.toNat)):Int)) [2]),(6,ROrc.callN (fn 105 0 (nth []) 1 (nth [ref (List.length [cells false 2 (nth [int i64 p.atoms,ae p.rules]),cells false 1 fun (a:Nat)=>int i64 (most:Int),cells false 27 (aH (ai p).snd)]) 0])) [] [cells false 1 fun (x:Nat)=>int u64 (↑(aD (ai p).snd 3 (p.atoms.toNat)):Int)] g),(7,ROrc.callS (fz Fz.auto 1 ((af (aD (ai p).snd 3 (p.atoms.toNat))).l.length) fun (i x:Nat)=>ac (af (aD (ai p).snd 3 (p.atoms.toNat))).l i) [(3,cells false 1 fun (j:Nat)=>any)] g),(9,ROrc.val (Orc.obj (nth [fz Fz.auto 1 ((af (aD (ai p).snd 3 (p.atoms.toNat))).l.length) fun (i x:Nat)=>ac (af (aD (ai p).snd 3 (p.atoms.toNat))).l i])))]),(9,[(1,ROrc.val (Orc.obj (nth [fn 78 0 (nth []) 5 (nth [ref 5 0,ref 1 0,ref 4 0,ref 6 0,ref 0 0])])))]),(10,[(6,ROrc.lcall (int u64 (↑(aD (ai p).snd 2 (p.atoms.toNat)):Int)) [2]),(7,ROrc.kcall (tup 0 (nth [])))])]) (fun Q=>(fun (u1:List AObj)=>(fun (u2:Nat)=>(fun (u3:Int)=>(fun (u4:AObj)=>(fun (u5:AObj)=>(fun (u6:AV)=>(fun (u7:AObj)=>(fun (u8:Bool)=>(fun (u9:Int)=>(fun (u10:List AV)=>(fun (u11:AV)=>(fun (u12:List AObj)=>(fun (u13:Int)=>2<=2/\(∀(hp:List AObj) (g:R.σ),true=true/\Does Tryd.prog R 16 [av p] hp g (ret (int i64 u13)) hp g)/\((!u13 != 0)=true->1<=1)/\((!u13 != 0)=true->∀(hp:List AObj) (g:R.σ),true=true/\Does Tryd.prog R 58 [int i64 u3,int i64 1,int i64 100] hp g (ret (AV.bool (decide (1<=u3/\u3<=100)))) hp g)/\(u8=true->Wp Tryd.prog R 45 0 Rd.top (az Tryd.prog 27) [1,0,1,0] (aV Tryd.prog R 45 0 Rd.top (az Tryd.prog 27) Q [Kont.seq [1,1]]) (St.mk [(2,ref 0 0),(3,ref 1 0),(18,AV.bool u8)] [u4,u5] g))/\(u8=false->2<=2/\(true=true/\Does Tryd.prog R 60 [av p] [u4,u5] g (ret (tup 2 (nth [fz Fz.auto 2 ((bm (ai p).fst).l.length) fun (i:Nat)=>dQ ((bm (ai p).fst).l.getD i default),ref 2 0]))) [u4,u5,u7] g)/\Tables.follows Tryd.prog.toTables Departure.mixedOrders=true/\1<=2/\(∀(hp':List AObj) (g':R.σ),SameO [2] [u4,u5,u7] hp'->true=true/\Does Tryd.prog R 76 [ref 2 2,int i64 p.atoms,int i64 3] hp' g' (ret (int u64 (u2:Int))) hp' g')/\(true=true/\Does Tryd.prog R 77 [int u64 (u2:Int)] [u4,u5,u7] g (ret (fn 105 0 (nth []) 1 (nth [ref 3 0]))) u12 g)/\(true=true/\Does Tryd.prog R 75 [fn 105 0 (nth []) 1 (nth [ref 3 0])] u12 g (ret u6) [u4,u5,u7,cells false 1 fun (j:Nat)=>any] g)/\1<=1/\(∀(c:Nat),c<1->nth [u6] c=am (fun (a:Nat)=>fz Fz.nil 0 0 fun _ _=>any) 0 1 (fun (x:Nat)=>u6) c)/\1<=1/\(decide (u9 > 10)=true->Wp Tryd.prog R 45 0 Rd.top (az Tryd.prog 27) [1,1,1,1,0,1,0] (aV Tryd.prog R 45 0 Rd.top (az Tryd.prog 27) Q [Kont.seq [1,1,1,1,1]]) (St.mk [(2,ref 0 0),(3,ref 1 0),(7,ref 2 0),(8,ref 4 0),(34,AV.bool (decide (u9 > 10)))] [u4,u5,u7,cells false 1 fun (j:Nat)=>any,cells false 1 (nth [u6])] g))/\(decide (u9 > 10)=false->1<=1/\(∀(c:Nat),c<1->nth [fn 78 0 (nth []) 5 (nth u10)] c=am (fun (a:Nat)=>AV.nilf) 0 1 (fun (x:Nat)=>fn 78 0 (nth []) 5 (nth u10)) c)/\Tables.follows Tryd.prog.toTables Departure.mixedOrders=true/\1<=1/\1<=2/\(∀(hp':List AObj) (g':R.σ),SameO [2] u1 hp'->true=true/\Does Tryd.prog R 76 [ref 2 2,int i64 p.atoms,int i64 2] hp' g' (ret u11) hp' g')/\(true=true/\Does Tryd.prog R 78 (int i64 0::u11::u10) u1 g (ret (tup 0 (nth []))) u1 g)/\1<=1/\Q AEx.ret (St.mk [(4,fz Fz.nil 0 0 fun _ _=>any),(5,int i64 0)] u1 g)))) (if aF p=true then 0 else 2)) ([u4,u5,u7,cells false 1 fun (x:Nat)=>int u64 (u2:Int)])) (int u64 (↑(aD (ai p).snd 2 (p.atoms.toNat)):Int))) ([ref 5 0,ref 1 0,ref 4 0,ref 6 0,ref 0 0])) ((↑((af u2).l.length):Int))) (bif (if aF p=true then 0 else 2) != 0 then true else !decide (1<=u3/\u3<=100))) (cells false 27 (aH (ai p).snd))) (fz Fz.auto 1 ((af u2).l.length) fun (i x:Nat)=>ac (af u2).l i)) (cells false 1 fun (a:Nat)=>int i64 u3)) (cells false 2 (nth [int i64 p.atoms,ae p.rules]))) ((most:Int))) (aD (ai p).snd 3 (p.atoms.toNat))) ([cells false 2 (nth [int i64 p.atoms,ae p.rules]),cells false 1 fun (a:Nat)=>int i64 (most:Int),cells false 27 (aH (ai p).snd),cells false 1 fun (j:Nat)=>any,cells false 1 (nth [fz Fz.auto 1 ((af (aD (ai p).snd 3 (p.atoms.toNat))).l.length) fun (i x:Nat)=>ac (af (aD (ai p).snd 3 (p.atoms.toNat))).l i]),cells false 1 fun (a:Nat)=>fz Fz.nil 0 0 fun _ _=>any,cells false 1 (nth [fn 78 0 (nth []) 5 (nth [ref 5 0,ref 1 0,ref 4 0,ref 6 0,ref 0 0])])])) (fun _=>by kernel_rfl) ⟨by omega,(fun _ _=>⟨rfl,(gw _ _ _ _ (by omega))⟩),by omega,(fun hgd=>(fun _ _=>⟨rfl,(d9 _ _ _ _ _ _)⟩)),fun hcc=>(nomatch (hc.symm.trans hcc)),fun _=>⟨by omega,⟨rfl,(eN (T:=LT) inferInstance [] 2 (fun R _ g=>hD R g) rfl rfl rfl (by exact trivial) (by exact trivial) (by exact⟨bp (by exact⟨⟨trivial,trivial⟩,trivial⟩),trivial⟩) (by exact(Aj (fun i hi=>match i,hi with|0,_=>(Af _)|1,_=>(Af _) ))) (by exact⟨Ah,Ah,⟨rfl,Nat.le_refl _,fun j hj=>(by first|exact bC (by first|exact trivial|apply kL)|exact Ag (cJ rfl))⟩,trivial⟩))⟩,by kernel_rfl,by omega,?_,⟨rfl,(dg _ _ _ _)⟩,⟨rfl,(eN (T:=LT) inferInstance [3] 4 (fun R _ g=>hC R (aD (ai p).snd 3 (p.atoms.toNat)) (by omega) g) rfl rfl rfl (by exact⟨⟨rfl,Nat.le_refl _,fun j hj=>match j,hj with|0,_=>(Af _) ⟩,trivial⟩) (by exact⟨by omega,trivial⟩) (by exact⟨(Le.fn (fun i hi=>absurd hi (by omega)) (fun i hi=>match i,hi with|0,_=>(Af _) )),trivial⟩) (by exact bC (by exact trivial)) (by exact⟨Ah,Ah,Ah,Ah,trivial⟩))⟩,by omega,(fun c hc=>match c,hc with|0,_=>(by kernel_rfl) ),by omega,fun hcc=>(nomatch (hgt.symm.trans hcc)),fun _=>⟨by omega,(fun c hc=>match c,hc with|0,_=>(by kernel_rfl) ),by kernel_rfl,by omega,by omega,?_,⟨rfl,(eN (T:=LT) inferInstance [5,1,4,6,0] 7 (fun R _ g=>hF R g) rfl rfl rfl (by exact⟨⟨rfl,Nat.le_refl _,fun j hj=>match j,hj with|0,_=>(Af _) ⟩,⟨rfl,Nat.le_refl _,fun j hj=>match j,hj with|0,_=>(Af _) ⟩,⟨rfl,Nat.le_refl _,fun j hj=>match j,hj with|0,_=>(Af _) ⟩,⟨rfl,Nat.le_refl _,fun j hj=>match j,hj with|0,_=>(Le.fn (fun i hi=>absurd hi (by omega)) (fun i hi=>match i,hi with|0,_=>(Af _)|1,_=>(Af _)|2,_=>(Af _)|3,_=>(Af _)|4,_=>(Af _) )) ⟩,⟨rfl,Nat.le_refl _,fun j hj=>match j,hj with|0,_=>(Af _)|1,_=>(Af _) ⟩,trivial⟩) (by exact⟨by omega,by omega,by omega,by omega,by omega,trivial⟩) (by exact⟨bp (by exact trivial),bp (by exact trivial),Af _,Af _,Af _,Af _,Af _,trivial⟩) (by exact bC (by exact trivial)) (by exact⟨⟨rfl,Nat.le_refl _,fun j hj=>match j,hj with|0,_=>(Af _)|1,_=>(Af _) ⟩,⟨rfl,Nat.le_refl _,fun j hj=>match j,hj with|0,_=>(Af _) ⟩,Ah,Ah,⟨rfl,Nat.le_refl _,fun j hj=>match j,hj with|0,_=>(Af _) ⟩,⟨rfl,Nat.le_refl _,fun j hj=>match j,hj with|0,_=>(Af _) ⟩,⟨rfl,Nat.le_refl _,fun j hj=>match j,hj with|0,_=>(Le.fn (fun i hi=>absurd hi (by omega)) (fun i hi=>match i,hi with|0,_=>(Af _)|1,_=>(Af _)|2,_=>(Af _)|3,_=>(Af _)|4,_=>(Af _) )) ⟩,trivial⟩))⟩,by omega,?_⟩⟩⟩
 ·intro hp' g' hs'
  exact⟨rfl,ij [2] (fun R g=>hS R g) (by exact⟨rfl,trivial⟩) rfl (by exact fun n=>⟨Ap (fun j hj=>(cJ trivial).symm),trivial⟩) ⟨by omega,trivial⟩ (by exact fun n=>⟨Af _,Af _,Af _,trivial⟩) rfl (by exact fun n=>Af _) (by exact fun n=>⟨Ap (fun j hj=>cJ trivial),trivial⟩) hp' g' hs'⟩
 ·intro hp' g' hs'
  exact⟨rfl,ij [2] (fun R g=>hS2 R g) (by exact⟨rfl,trivial⟩) rfl (by exact fun n=>⟨Ap (fun j hj=>(cJ trivial).symm),trivial⟩) ⟨by omega,trivial⟩ (by exact fun n=>⟨Af _,Af _,Af _,trivial⟩) rfl (by exact fun n=>Af _) (by exact fun n=>⟨Ap (fun j hj=>cJ trivial),trivial⟩) hp' g' hs'⟩
 ·refine(aq (bA _ _ rfl trivial ⟨⟨trivial,trivial⟩,trivial⟩ rfl) (Af _))
theorem y7 (R:Res)[Tab LT R](p:Prg)(most:Nat)(hb:aF p=true)(hm:1<=most/\most<=100)(hO:(aB (cb p)).length<=10)(hN:stP p most≠[])(g:R.σ):Does Tryd.prog R 27 [av p,.int .i64 most] [] g (.ret (.tup 2 (nth [bq (stP p most).length (fun i=>af ((stP p most).getD i 0)),.int .i64 0]))) [] g:=by
 obtain⟨hl,hr,hp,hh,hx⟩:=eT hb
 have hs:eq p:=gG hb
 have hp':1<=p.atoms/\p.atoms<=24:=hp
 have hc:(bif ((if aF p then(0:Int) else 2) != 0) then true else !decide (1<=(most:Int)/\(most:Int)<=100))=false:=by
  rw[hb,decide_eq_true (by omega)]
  rfl
 have hD:=fun (R:Res) [Tab LT R] (g:R.σ)=>ll R p hl hr hp hh g
 have hC:=fun (R:Res) [Tab LT R] (s:Nat) (hs:s<2^24) (g:R.σ)=>ix R s hs g
 have hlt:aD (ai p).2 3 p.atoms.toNat<2^24:=gF (by omega)
 have hS:=fun (R:Res) (g:R.σ)=>jG R (ai p).2 p.atoms 3 (by omega) g
 have hS2:=fun (R:Res) (g:R.σ)=>jG R (ai p).2 p.atoms 2 (by omega) g
 have hgt:decide ((10:Int)<((af (aD (ai p).2 3 p.atoms.toNat)).l.length:Int))=false:=decide_eq_false (by
  have hO:(af (aD (ai p).2 3 p.atoms.toNat)).l.length<=10:=hO
  omega)
 obtain⟨L,hL⟩:∃L,stP p most=L:=⟨_,rfl⟩
 rw[hL] at hN ⊢
 obtain⟨m,hm0⟩:∃m,m=L.length:=⟨_,rfl⟩
 have hmm:m<=100:=by
  have:=(dV (p:=p) (most:=most) (r:=aB (cb p)) (s:=cg p) (out:=[]) (Nat.zero_le _)).2.1
  have hL':stF p most (aB (cb p)) (cg p) []=L:=hL
  rw[hL'] at this
  omega
 have hF0:=(nX (p:=p) (most:=most) (O:=af (cb p)) hm hO sb hl hr (af (cb p)).l.length 0 (by omega)).nw
 rw[List.drop_zero] at hF0
 have hF:=fun (R:Res) [Tab LT R] (g:R.σ)=>hF0 R (cg p) m L g (gF (by omega)) hL hN hm0
 unfold cg cb at hF
 clear hF0
 refine dD (nt:=45) (rs:=[.tmp 4,.tmp 5]) (k0:=0) (by kernel_rfl) (by kernel_rfl) (by kernel_rfl) rfl ?_
 refine vcQ [[1,0,1,0],[1,1,1,1,0,1,0]] (lkL [(0,[2,3]),(1,[2,3,18]),(3,[2,3,7]),(4,[2,3,7,8]),(5,[2,3,7,8,34]),(7,[2,3,7,8,9]),(8,[2,3,7,8,9,10]),(9,[2,7,9,10]),(10,[9]),(11,[4,5])]) (lkL [(1,[(1,ROrc.pcall (int i64 (if aF p=true then 0 else 2))),(5,ROrc.pcall (AV.bool (decide (1<=(most:Int)/\(most:Int)<=100))))]),(3,[(1,ROrc.call (tup 2 (nth [fz Fz.auto 2 ((bm (ai p).fst).l.length) fun (i:Nat)=>dQ ((bm (ai p).fst).l.getD i default),ref 2 0])) [cells false 2 (nth [int i64 p.atoms,ae p.rules]),cells false 1 fun (a:Nat)=>int i64 (most:Int),cells false 27 (aH (ai p).snd)] g)]),(4,[(5,ROrc.lcall (int u64 (↑(aD (ai p).snd 3 (p.atoms.toNat)):Int)) [2]),(6,ROrc.callN (fn 105 0 (nth []) 1 (nth [ref (List.length [cells false 2 (nth [int i64 p.atoms,ae p.rules]),cells false 1 fun (a:Nat)=>int i64 (most:Int),cells false 27 (aH (ai p).snd)]) 0])) [] [cells false 1 fun (x:Nat)=>int u64 (↑(aD (ai p).snd 3 (p.atoms.toNat)):Int)] g),(7,ROrc.callS (fz Fz.auto 1 ((af (aD (ai p).snd 3 (p.atoms.toNat))).l.length) fun (i x:Nat)=>ac (af (aD (ai p).snd 3 (p.atoms.toNat))).l i) [(3,cells false 1 fun (j:Nat)=>any)] g),(9,ROrc.val (Orc.obj (nth [fz Fz.auto 1 ((af (aD (ai p).snd 3 (p.atoms.toNat))).l.length) fun (i x:Nat)=>ac (af (aD (ai p).snd 3 (p.atoms.toNat))).l i])))]),(9,[(1,ROrc.val (Orc.obj (nth [fn 78 0 (nth []) 5 (nth [ref 5 0,ref 1 0,ref 4 0,ref 6 0,ref 0 0])])))]),(10,[(6,ROrc.lcall (int u64 (↑(aD (ai p).snd 2 (p.atoms.toNat)):Int)) [2]),(7,ROrc.callN (tup 0 (nth [])) [(5,cells false 1 fun (j:Nat)=>ow true 7 m 1)] [cells false (m*1) (aM L)] g)])]) (fun Q=>(fun (u1:AV)=>(fun (u2:AObj)=>(fun (u3:AObj)=>(fun (u4:List AObj)=>(fun (u5:Int)=>(fun (u6:Int)=>(fun (u7:List AObj)=>(fun (u8:AObj)=>(fun (u9:Bool)=>(fun (u10:AV)=>(fun (u11:List AV)=>(fun (u12:AV)=>(fun (u13:Int)=>2<=2/\(∀(hp:List AObj) (g:R.σ),true=true/\Does Tryd.prog R 16 [av p] hp g (ret (int i64 u13)) hp g)/\((!u13 != 0)=true->1<=1)/\((!u13 != 0)=true->∀(hp:List AObj) (g:R.σ),true=true/\Does Tryd.prog R 58 [int i64 u6,int i64 1,int i64 100] hp g (ret (AV.bool (decide (1<=u6/\u6<=100)))) hp g)/\(u9=true->Wp Tryd.prog R 45 0 Rd.top (az Tryd.prog 27) [1,0,1,0] (aV Tryd.prog R 45 0 Rd.top (az Tryd.prog 27) Q [Kont.seq [1,1]]) (St.mk [(2,ref 0 0),(3,ref 1 0),(18,AV.bool u9)] [u2,u3] g))/\(u9=false->2<=2/\(true=true/\Does Tryd.prog R 60 [av p] [u2,u3] g (ret (tup 2 (nth [fz Fz.auto 2 ((bm (ai p).fst).l.length) fun (i:Nat)=>dQ ((bm (ai p).fst).l.getD i default),ref 2 0]))) [u2,u3,u8] g)/\Tables.follows Tryd.prog.toTables Departure.mixedOrders=true/\1<=2/\(∀(hp':List AObj) (g':R.σ),SameO [2] [u2,u3,u8] hp'->true=true/\Does Tryd.prog R 76 [ref 2 2,int i64 p.atoms,int i64 3] hp' g' (ret u10) hp' g')/\(true=true/\Does Tryd.prog R 77 [u10] [u2,u3,u8] g (ret (fn 105 0 (nth []) 1 (nth [ref 3 0]))) [u2,u3,u8,cells false 1 fun (x:Nat)=>u10] g)/\(true=true/\Does Tryd.prog R 75 [fn 105 0 (nth []) 1 (nth [ref 3 0])] [u2,u3,u8,cells false 1 fun (x:Nat)=>u10] g (ret u1) [u2,u3,u8,cells false 1 fun (j:Nat)=>any] g)/\1<=1/\(∀(c:Nat),c<1->nth [u1] c=am (fun (a:Nat)=>fz Fz.nil 0 0 fun _ _=>any) 0 1 (fun (x:Nat)=>u1) c)/\1<=1/\(decide (u5 > 10)=true->Wp Tryd.prog R 45 0 Rd.top (az Tryd.prog 27) [1,1,1,1,0,1,0] (aV Tryd.prog R 45 0 Rd.top (az Tryd.prog 27) Q [Kont.seq [1,1,1,1,1]]) (St.mk [(2,ref 0 0),(3,ref 1 0),(7,ref 2 0),(8,ref 4 0),(34,AV.bool (decide (u5 > 10)))] [u2,u3,u8,cells false 1 fun (j:Nat)=>any,cells false 1 (nth [u1])] g))/\(decide (u5 > 10)=false->1<=1/\(∀(c:Nat),c<1->nth [fn 78 0 (nth []) 5 (nth u11)] c=am (fun (a:Nat)=>AV.nilf) 0 1 (fun (x:Nat)=>fn 78 0 (nth []) 5 (nth u11)) c)/\Tables.follows Tryd.prog.toTables Departure.mixedOrders=true/\1<=1/\1<=2/\(∀(hp':List AObj) (g':R.σ),SameO [2] u7 hp'->true=true/\Does Tryd.prog R 76 [ref 2 2,int i64 p.atoms,int i64 2] hp' g' (ret u12) hp' g')/\(true=true/\Does Tryd.prog R 78 (int i64 0::u12::u11) u7 g (ret (tup 0 (nth []))) u4 g)/\1<=1/\Q AEx.ret (St.mk [(4,ow true 7 m 1),(5,int i64 0)] u4 g)))) (if aF p=true then 0 else 2)) (int u64 (↑(aD (ai p).snd 2 (p.atoms.toNat)):Int))) ([ref 5 0,ref 1 0,ref 4 0,ref 6 0,ref 0 0])) (int u64 (↑(aD (ai p).snd 3 (p.atoms.toNat)):Int))) (bif (if aF p=true then 0 else 2) != 0 then true else !decide (1<=u6/\u6<=100))) (cells false 27 (aH (ai p).snd))) ([u2,u3,cells false 27 (aH (ai p).snd),cells false 1 fun (j:Nat)=>any,cells false 1 (nth [u1]),cells false 1 fun (a:Nat)=>fz Fz.nil 0 0 fun _ _=>any,cells false 1 (nth [fn 78 0 (nth []) 5 (nth [ref 5 0,ref 1 0,ref 4 0,ref 6 0,ref 0 0])])])) ((most:Int))) ((↑((af (aD (ai p).snd 3 (p.atoms.toNat))).l.length):Int))) ([u2,u3,cells false 27 (aH (ai p).snd),cells false 1 fun (j:Nat)=>any,cells false 1 (nth [u1]),cells false 1 fun (j:Nat)=>ow true 7 m 1,cells false 1 (nth [fn 78 0 (nth []) 5 (nth [ref 5 0,ref 1 0,ref 4 0,ref 6 0,ref 0 0])]),cells false (m*1) fun (a:Nat)=>fz Fz.auto 1 ((af (L.getD a 0)).l.length) fun (i x:Nat)=>ac (af (L.getD a 0)).l i])) (cells false 1 fun (a:Nat)=>int i64 (most:Int))) (cells false 2 (nth [int i64 p.atoms,ae p.rules]))) (fz Fz.auto 1 ((af (aD (ai p).snd 3 (p.atoms.toNat))).l.length) fun (i x:Nat)=>ac (af (aD (ai p).snd 3 (p.atoms.toNat))).l i)) (fun _=>by kernel_rfl) ⟨by omega,(fun _ _=>⟨rfl,(gw _ _ _ _ (by omega))⟩),by omega,(fun hgd=>(fun _ _=>⟨rfl,(d9 _ _ _ _ _ _)⟩)),fun hcc=>(nomatch (hc.symm.trans hcc)),fun _=>⟨by omega,⟨rfl,(eN (T:=LT) inferInstance [] 2 (fun R _ g=>hD R g) rfl rfl rfl (by exact trivial) (by exact trivial) (by exact⟨bp (by exact⟨⟨trivial,trivial⟩,trivial⟩),trivial⟩) (by exact(Aj (fun i hi=>match i,hi with|0,_=>(Af _)|1,_=>(Af _) ))) (by exact⟨Ah,Ah,⟨rfl,Nat.le_refl _,fun j hj=>(by first|exact bC (by first|exact trivial|apply kL)|exact Ag (cJ rfl))⟩,trivial⟩))⟩,by kernel_rfl,by omega,?_,⟨rfl,(dg _ _ _ _)⟩,⟨rfl,(eN (T:=LT) inferInstance [3] 4 (fun R _ g=>hC R (aD (ai p).snd 3 (p.atoms.toNat)) (by omega) g) rfl rfl rfl (by exact⟨⟨rfl,Nat.le_refl _,fun j hj=>match j,hj with|0,_=>(Af _) ⟩,trivial⟩) (by exact⟨by omega,trivial⟩) (by exact⟨(Le.fn (fun i hi=>absurd hi (by omega)) (fun i hi=>match i,hi with|0,_=>(Af _) )),trivial⟩) (by exact bC (by exact trivial)) (by exact⟨Ah,Ah,Ah,Ah,trivial⟩))⟩,by omega,(fun c hc=>match c,hc with|0,_=>(by kernel_rfl) ),by omega,fun hcc=>(nomatch (hgt.symm.trans hcc)),fun _=>⟨by omega,(fun c hc=>match c,hc with|0,_=>(by kernel_rfl) ),by kernel_rfl,by omega,by omega,?_,⟨rfl,(eN (T:=LT) inferInstance [5,1,4,6,0] 7 (fun R _ g=>hF R g) rfl rfl rfl (by exact⟨⟨rfl,Nat.le_refl _,fun j hj=>match j,hj with|0,_=>(Af _) ⟩,⟨rfl,Nat.le_refl _,fun j hj=>match j,hj with|0,_=>(Af _) ⟩,⟨rfl,Nat.le_refl _,fun j hj=>match j,hj with|0,_=>(Af _) ⟩,⟨rfl,Nat.le_refl _,fun j hj=>match j,hj with|0,_=>(Le.fn (fun i hi=>absurd hi (by omega)) (fun i hi=>match i,hi with|0,_=>(Af _)|1,_=>(Af _)|2,_=>(Af _)|3,_=>(Af _)|4,_=>(Af _) )) ⟩,⟨rfl,Nat.le_refl _,fun j hj=>match j,hj with|0,_=>(Af _)|1,_=>(Af _) ⟩,trivial⟩) (by exact⟨by omega,by omega,by omega,by omega,by omega,trivial⟩) (by exact⟨bp (by exact trivial),bp (by exact trivial),Af _,Af _,Af _,Af _,Af _,trivial⟩) (by exact bC (by exact trivial)) (by exact⟨⟨rfl,Nat.le_refl _,fun j hj=>match j,hj with|0,_=>(Af _)|1,_=>(Af _) ⟩,⟨rfl,Nat.le_refl _,fun j hj=>match j,hj with|0,_=>(Af _) ⟩,Ah,Ah,⟨rfl,Nat.le_refl _,fun j hj=>match j,hj with|0,_=>(Af _) ⟩,Ah,⟨rfl,Nat.le_refl _,fun j hj=>match j,hj with|0,_=>(Le.fn (fun i hi=>absurd hi (by omega)) (fun i hi=>match i,hi with|0,_=>(Af _)|1,_=>(Af _)|2,_=>(Af _)|3,_=>(Af _)|4,_=>(Af _) )) ⟩,⟨rfl,Nat.le_refl _,fun j hj=>(by first|exact bC (by first|exact trivial|apply fj)|exact Ag (gu rfl))⟩,trivial⟩))⟩,by omega,?_⟩⟩⟩
 ·intro hp' g' hs'
  exact⟨rfl,ij [2] (fun R g=>hS R g) (by exact⟨rfl,trivial⟩) rfl (by exact fun n=>⟨Ap (fun j hj=>(cJ trivial).symm),trivial⟩) ⟨by omega,trivial⟩ (by exact fun n=>⟨Af _,Af _,Af _,trivial⟩) rfl (by exact fun n=>Af _) (by exact fun n=>⟨Ap (fun j hj=>cJ trivial),trivial⟩) hp' g' hs'⟩
 ·intro hp' g' hs'
  exact⟨rfl,ij [2] (fun R g=>hS2 R g) (by exact⟨rfl,trivial⟩) rfl (by exact fun n=>⟨Ap (fun j hj=>(cJ trivial).symm),trivial⟩) ⟨by omega,trivial⟩ (by exact fun n=>⟨Af _,Af _,Af _,trivial⟩) rfl (by exact fun n=>Af _) (by exact fun n=>⟨Ap (fun j hj=>cJ trivial),trivial⟩) hp' g' hs'⟩
 ·subst hm0
  show bw Tryd.prog R 0 _ _ _ _ .ret _
  refine eL (.tup 2 (nth [.ow true 7 L.length 1,.int .i64 0])) _ rfl trivial (ik 0 [(0,.tup 2 (nth [bq L.length (fun i=>af (L.getD i 0)),.int .i64 0]))] (Nat.le_refl _) (Nat.zero_le _) (fun i hi=>absurd hi (Nat.not_lt_zero i)) ⟨ar.tup (fun j hj=>?_),trivial⟩)
  match j,hj with
  |0,_=>exact ar.le (ar.ow (o:=7) (N:=L.length*1) (c:=aM L) (get:=aM L) (fr:=false) rfl (Nat.zero_le _) (Nat.le_refl _) (by decide) (fun j _=>Am (fj _ _))) (Al rfl (fun i j hi hj=>by
    show aM L (i*1+j)=_
    rw[show i*1+j=i by omega]
    rfl))
  |1,_=>exact Am trivial
theorem sc (R:Res)[Tab LT R](p:Prg)(most:Nat)(hb:aF p=true)(hm:1<=most/\most<=100)(hO:(aB (cb p)).length<=10)(g:R.σ):Does Tryd.prog R 27 [av p,.int .i64 most] [] g (.ret (.tup 2 (nth [bq (stP p most).length (fun i=>af ((stP p most).getD i 0)),.int .i64 0]))) [] g:=by
 by_cases hN:stP p most=[]
 ·rw[hN]
  exact fM (y0 R p most hb hm hO hN g) (i5 ⟨Aj (fun j hj=>match j,hj with|0,_=>Le.nil_auto|1,_=>Af _),trivial⟩ trivial rfl)
 ·exact y7 R p most hb hm hO hN g
theorem y8 {p:Prg}(h:aF p=true):∀r,r∈p.rules.l->jD p.atoms.toNat r:=by
 obtain⟨h1,h2,h3,h4,h5⟩:=eT h
 have h3:1<=p.atoms/\p.atoms<=24:=h3
 intro r hr
 refine⟨⟨(h2 r hr).1.1,fun l hl=>?_⟩,?_⟩
 ·have:=h5 r hr l hl
  omega
 ·have:=h4 r hr
  have:=(h2 r hr).2
  omega
structure LstOk (p:Prg)(n:Nat)(s:List Bool)(left:Nat):Prop where
 len:s.length=n
 bit:∀j,j<n->s.getD j false = !left.testBit j
 lt:left<2^24
 inn:∀j,left.testBit j=true->j<n
 cls:∀x y,x<n->left.testBit x=false->Reach p x y->left.testBit y=false
section
variable {p:Prg}{n:Nat}{s:List Bool}{left:Nat}
end
end Go.Avm.Pack
namespace Go.Avm.Pack
open Go Go.Avm Go.Proofs
open Go.IntKind (i64 u64)
open Go.Avm.AV (int bool any fz fp sl ow ref fn ifc val agg tup)
open Go.Avm.AObj (cells dead)
open Go.Avm.Oc (ret)
set_option maxRecDepth 4000
theorem jH (R:Res)(a:Int)(hp:List AObj)(g:R.σ):Does Tryd.prog R 91 [.int .i64 a] hp g (.ret (bW ⟨a,false⟩)) hp g:=by
 refine bG (fun R g=>?_) (by exact⟨trivial,trivial⟩) R hp g
 refine spW (nt:=5) (rs:=[.cell 2 77]) (k0:=0) ?_
 refine vcR [] (lkL [(0,[0,2]),(1,[2])]) (lkL [(1,[(2,ROrc.val (Orc.obj (nth [i6 a,AV.bool false])))])]) (fun Q=>2<=2/\(∀(c:Nat),c<2->nth [i6 a,AV.bool false] c=am (nth [i6 0,AV.bool false]) 0 2 (List.brecOn (motive:=fun (x:List AV)=>Nat->AV) [i6 a,AV.bool false] nth._f) c)/\Q AEx.ret (St.mk [(2,ref 0 0)] [cO 2 (nth [i6 a,AV.bool false])] g)) ⟨omg,(fun c hc=>match c,hc with|0,_=>krf|1,_=>krf ),?_⟩
 refine(aq (bA (agg 2 (nth [i6 a,AV.bool false])) ([0+(TyI.mk ((fun (x:TypeInfo)=>x.desc) Tryd.prog.types[76]) Tryd.prog.types[77].size Tryd.prog.types[77].bytes (cB (dW (Value.agg #[Value.int i64 0,Value.bool false]))) (dl ((fun (x:TypeInfo)=>x.desc) Tryd.prog.types[76])) (ez Tryd.prog 77)).size<=2]) krf (by exact⟨dcd,trivial⟩) ⟨⟨trivial,trivial⟩,trivial⟩ rfl) (Ag krf))
theorem jI (R:Res)(a:Int)(hp:List AObj)(g:R.σ):Does Tryd.prog R 92 [.int .i64 a] hp g (.ret (bW ⟨a,true⟩)) hp g:=by
 refine bG (fun R g=>?_) (by exact⟨trivial,trivial⟩) R hp g
 refine spW (nt:=5) (rs:=[.cell 2 77]) (k0:=0) ?_
 refine vcR [] (lkL [(0,[0,2]),(1,[2])]) (lkL [(1,[(2,ROrc.val (Orc.obj (nth [i6 a,AV.bool true])))])]) (fun Q=>2<=2/\(∀(c:Nat),c<2->nth [i6 a,AV.bool true] c=am (nth [i6 0,AV.bool false]) 0 2 (List.brecOn (motive:=fun (x:List AV)=>Nat->AV) [i6 a,AV.bool true] nth._f) c)/\Q AEx.ret (St.mk [(2,ref 0 0)] [cO 2 (nth [i6 a,AV.bool true])] g)) ⟨omg,(fun c hc=>match c,hc with|0,_=>krf|1,_=>krf ),?_⟩
 refine(aq (bA (agg 2 (nth [i6 a,AV.bool true])) ([0+(TyI.mk ((fun (x:TypeInfo)=>x.desc) Tryd.prog.types[76]) Tryd.prog.types[77].size Tryd.prog.types[77].bytes (cB (dW (Value.agg #[Value.int i64 0,Value.bool false]))) (dl ((fun (x:TypeInfo)=>x.desc) Tryd.prog.types[76])) (ez Tryd.prog 77)).size<=2]) krf (by exact⟨dcd,trivial⟩) ⟨⟨trivial,trivial⟩,trivial⟩ rfl) (Ag krf))
theorem eV (R:Res)(a:Int)(b:KL Lit)(hp:List AObj)(g:R.σ):Does Tryd.prog R 90 [.int .i64 a,ao b] hp g (.ret (bS ⟨a,b⟩)) hp g:=by
 refine bG (fun R g=>?_) (by exact⟨trivial,trivial,trivial⟩) R hp g
 refine spW (nt:=8) (rs:=[.cell 4 75]) (k0:=0) ?_
 refine vcR [] (lkL [(0,[0,1,4]),(1,[4])]) (lkL [(1,[(3,ROrc.val (Orc.obj (nth [i6 a,ao b])))])]) (fun Q=>2<=2/\(∀(c:Nat),c<2->nth [i6 a,ao b] c=am (nth [i6 0,fz Fz.nil 0 0 fun x x_1=>any]) 0 2 (List.brecOn (motive:=fun (x:List AV)=>Nat->AV) [i6 a,ao b] nth._f) c)/\Q AEx.ret (St.mk [(4,ref 0 0)] [cO 2 (nth [i6 a,ao b])] g)) ⟨omg,(fun c hc=>match c,hc with|0,_=>krf|1,_=>krf ),?_⟩
 refine(aq (bA (agg 2 (nth [i6 a,fz b.2 2 (b.l.length) fun (i:Nat)=>im (b.l.getD i default)])) ([0+(TyI.mk ((fun (x:TypeInfo)=>x.desc) Tryd.prog.types[74]) Tryd.prog.types[75].size Tryd.prog.types[75].bytes (cB (dW (Value.agg #[Value.int i64 0,Value.slice none 0 0]))) (dl ((fun (x:TypeInfo)=>x.desc) Tryd.prog.types[74])) (ez Tryd.prog 75)).size<=2]) krf (by exact⟨dcd,trivial⟩) ⟨⟨trivial,trivial⟩,trivial⟩ rfl) (Ag krf))
def tN:KL Lit:=⟨[],.nil⟩
def tA1:KL Lit:=⟨[⟨0,false⟩,⟨2,true⟩],.exa⟩
def tA2:KL Lit:=⟨[⟨3,false⟩],.exa⟩
def tA3:KL Lit:=⟨[⟨2,false⟩],.exa⟩
def tA4:KL Lit:=⟨[⟨5,true⟩],.exa⟩
def tA5:KL Lit:=⟨[⟨4,true⟩],.exa⟩
def tAR:KL Rule:=⟨[⟨0,tN⟩,⟨1,tA1⟩,⟨2,tA2⟩,⟨3,tA3⟩,⟨4,tA4⟩,⟨5,tA5⟩],.exa⟩
def tA:Prg:=⟨6,tAR⟩
def tB1:KL Lit:=⟨[⟨1,true⟩],.exa⟩
def tB2:KL Lit:=⟨[⟨0,true⟩],.exa⟩
def tB3:KL Lit:=⟨[⟨0,false⟩],.exa⟩
def tB4:KL Lit:=⟨[⟨1,false⟩],.exa⟩
def tBR:KL Rule:=⟨[⟨0,tB1⟩,⟨1,tB2⟩,⟨2,tB3⟩,⟨2,tB4⟩],.exa⟩
def tB:Prg:=⟨3,tBR⟩
def tS1:KL Int:=⟨[0],.exa⟩
def tS2:KL Int:=⟨[2,3],.exa⟩
def tS3:KL Int:=⟨[1],.exa⟩
def tS:KL Step:=⟨[⟨0,tS1⟩,⟨-1,tS2⟩,⟨1,tS3⟩],.exa⟩
theorem c_A (R:Res)(hp:List AObj)(g:R.σ):Does Tryd.prog R 44 [] hp g (.ret (av tA)) hp g:=by
 refine bG (fun R g=>?_) (by exact trivial) R hp g
 obtain⟨v0,e0⟩:∃v,v=tN:=⟨_,rfl⟩
 obtain⟨v1,e1⟩:∃v,v=tA1:=⟨_,rfl⟩
 obtain⟨v2,e2⟩:∃v,v=tA2:=⟨_,rfl⟩
 obtain⟨v3,e3⟩:∃v,v=tA3:=⟨_,rfl⟩
 obtain⟨v4,e4⟩:∃v,v=tA4:=⟨_,rfl⟩
 obtain⟨v5,e5⟩:∃v,v=tA5:=⟨_,rfl⟩
 obtain⟨w,f⟩:∃v,v=tAR:=⟨_,rfl⟩
 show Does _ _ _ _ _ _ (.ret (av ⟨6,tAR⟩)) _ _
 rw[<-f]
 refine spW (nt:=20) (rs:=[.cell 0 24]) (k0:=0) ?_
 refine vcR [] (lkL [(0,[0]),(1,[0])]) (lkL [(1,[(0,ROrc.pcall (bS (Rule.mk 0 (KL.mk [] Fz.nil)))),(1,ROrc.pcall (bW (Lit.mk 0 false))),(2,ROrc.pcall (bW (Lit.mk 2 true))),(3,ROrc.kop (ao v1)),(4,ROrc.pcall (bS (Rule.mk 1 v1))),(5,ROrc.pcall (bW (Lit.mk 3 false))),(6,ROrc.kop (ao v2)),(7,ROrc.pcall (bS (Rule.mk 2 v2))),(8,ROrc.pcall (bW (Lit.mk 2 false))),(9,ROrc.kop (ao v3)),(10,ROrc.pcall (bS (Rule.mk 3 v3))),(11,ROrc.pcall (bW (Lit.mk 5 true))),(12,ROrc.kop (ao v4)),(13,ROrc.pcall (bS (Rule.mk 4 v4))),(14,ROrc.pcall (bW (Lit.mk 4 true))),(15,ROrc.kop (ao v5)),(16,ROrc.pcall (bS (Rule.mk 5 v5))),(17,ROrc.kop (ae w)),(19,ROrc.val (Orc.obj (nth [i6 6,ae w])))])]) (fun Q=>(fun (u1:List Row)=>(fun (u2:List AObj)=>(fun (u3:List Row)=>(fun (u4:List Row)=>(fun (u5:List Row)=>(fun (u6:List (Nat × AV))=>(∀(hp:List AObj) (g:R.σ),true=true/\Does Tryd.prog R 90 [i6 0,fz Fz.nil 0 0 fun x x_1=>any] hp g (ret (agg 2 (nth [i6 0,fz Fz.nil 2 0 fun i=>im ((KL.mk [] Fz.nil).l.getD i default)]))) hp g)/\(∀(hp:List AObj) (g:R.σ),true=true/\Does Tryd.prog R 91 [i6 0] hp g (ret (agg 2 (nth [i6 0,AV.bool false]))) hp g)/\(∀(hp:List AObj) (g:R.σ),true=true/\Does Tryd.prog R 92 [i6 2] hp g (ret (agg 2 (nth [i6 2,AV.bool true]))) hp g)/\OpOk Tryd.prog R (Oper.mk (some 4) (Op.buildSlice 73 2 #[(0,Operand.tmp 2),(1,Operand.tmp 3)]) 73 "law.go:21" #[Edge.mk 1 Ground.data,Edge.mk 2 Ground.data] none) (evO u4 u6 []) u2 g (ao v1) u2 g/\(∀(hp:List AObj) (g:R.σ),true=true/\Does Tryd.prog R 90 [i6 1,ao v1] hp g (ret (agg 2 (nth [i6 1,ao v1]))) hp g)/\(∀(hp:List AObj) (g:R.σ),true=true/\Does Tryd.prog R 91 [i6 3] hp g (ret (agg 2 (nth [i6 3,AV.bool false]))) hp g)/\OpOk Tryd.prog R (Oper.mk (some 7) (Op.buildSlice 73 1 #[(0,Operand.tmp 6)]) 73 "law.go:21" #[Edge.mk 5 Ground.data] none) (evO (Row.mk (some 6) none (agg 2 (nth [i6 3,AV.bool false])) false (some []) []::Row.mk (some 5) none (agg 2 (nth [i6 1,ao v1])) false (some []) []::Row.mk (some 4) none (ao v1) true (some []) []::u4) u6 []) u2 g (ao v2) u2 g/\(∀(hp:List AObj) (g:R.σ),true=true/\Does Tryd.prog R 90 [i6 2,ao v2] hp g (ret (agg 2 (nth [i6 2,ao v2]))) hp g)/\(∀(hp:List AObj) (g:R.σ),true=true/\Does Tryd.prog R 91 [i6 2] hp g (ret (agg 2 (nth [i6 2,AV.bool false]))) hp g)/\OpOk Tryd.prog R (Oper.mk (some 10) (Op.buildSlice 73 1 #[(0,Operand.tmp 9)]) 73 "law.go:21" #[Edge.mk 8 Ground.data] none) (evO u1 u6 []) u2 g (ao v3) u2 g/\(∀(hp:List AObj) (g:R.σ),true=true/\Does Tryd.prog R 90 [i6 3,ao v3] hp g (ret (agg 2 (nth [i6 3,ao v3]))) hp g)/\(∀(hp:List AObj) (g:R.σ),true=true/\Does Tryd.prog R 92 [i6 5] hp g (ret (agg 2 (nth [i6 5,AV.bool true]))) hp g)/\OpOk Tryd.prog R (Oper.mk (some 13) (Op.buildSlice 73 1 #[(0,Operand.tmp 12)]) 73 "law.go:21" #[Edge.mk 11 Ground.data] none) (evO u3 u6 []) u2 g (ao v4) u2 g/\(∀(hp:List AObj) (g:R.σ),true=true/\Does Tryd.prog R 90 [i6 4,ao v4] hp g (ret (agg 2 (nth [i6 4,ao v4]))) hp g)/\(∀(hp:List AObj) (g:R.σ),true=true/\Does Tryd.prog R 92 [i6 4] hp g (ret (agg 2 (nth [i6 4,AV.bool true]))) hp g)/\OpOk Tryd.prog R (Oper.mk (some 16) (Op.buildSlice 73 1 #[(0,Operand.tmp 15)]) 73 "law.go:21" #[Edge.mk 14 Ground.data] none) (evO u5 u6 []) u2 g (ao v5) u2 g/\(∀(hp:List AObj) (g:R.σ),true=true/\Does Tryd.prog R 90 [i6 5,ao v5] hp g (ret (agg 2 (nth [i6 5,ao v5]))) hp g)/\OpOk Tryd.prog R (Oper.mk (some 18) (Op.buildSlice 22 6 #[(0,Operand.tmp 1),(1,Operand.tmp 5),(2,Operand.tmp 8),(3,Operand.tmp 11),(4,Operand.tmp 14),(5,Operand.tmp 17)]) 22 "law.go:21" #[Edge.mk 0 Ground.data,Edge.mk 4 Ground.data,Edge.mk 7 Ground.data,Edge.mk 10 Ground.data,Edge.mk 13 Ground.data,Edge.mk 16 Ground.data] none) (evO (Row.mk (some 17) none (agg 2 (nth [i6 5,ao v5])) false (some []) []::Row.mk (some 16) none (ao v5) true (some []) []::u5) u6 []) u2 g (ae w) u2 g/\2<=2/\(∀(c:Nat),c<2->nth [i6 6,ae w] c=am (nth [i6 0,fz Fz.nil 0 0 fun x x_1=>any]) 0 2 (List.brecOn (motive:=fun (x:List AV)=>Nat->AV) [i6 6,ae w] nth._f) c)/\Q AEx.ret (St.mk u6 [cO 2 (nth [i6 6,ae w])] g)) ([(0,ref 0 0)])) (Row.mk (some 15) none (agg 2 (nth [i6 4,AV.bool true])) false (some []) []::Row.mk (some 14) none (agg 2 (nth [i6 4,ao v4])) false (some []) []::Row.mk (some 13) none (ao v4) true (some []) []::u3)) ([Row.mk (some 3) none (agg 2 (nth [i6 2,AV.bool true])) false (some []) [],Row.mk (some 2) none (agg 2 (nth [i6 0,AV.bool false])) false (some []) [],Row.mk (some 1) none (agg 2 (nth [i6 0,fz Fz.nil 2 0 fun i=>im (List.getD [] i default)])) false (some []) []])) (Row.mk (some 12) none (agg 2 (nth [i6 5,AV.bool true])) false (some []) []::Row.mk (some 11) none (agg 2 (nth [i6 3,ao v3])) false (some []) []::Row.mk (some 10) none (ao v3) true (some []) []::u1)) ([cO 2 (nth [i6 0,fz Fz.nil 0 0 fun x x_1=>any])])) ([Row.mk (some 9) none (agg 2 (nth [i6 2,AV.bool false])) false (some []) [],Row.mk (some 8) none (agg 2 (nth [i6 2,ao v2])) false (some []) [],Row.mk (some 7) none (ao v2) true (some []) [],Row.mk (some 6) none (agg 2 (nth [i6 3,AV.bool false])) false (some []) [],Row.mk (some 5) none (agg 2 (nth [i6 1,ao v1])) false (some []) [],Row.mk (some 4) none (ao v1) true (some []) [],Row.mk (some 3) none (agg 2 (nth [i6 2,AV.bool true])) false (some []) [],Row.mk (some 2) none (agg 2 (nth [i6 0,AV.bool false])) false (some []) [],Row.mk (some 1) none (agg 2 (nth [i6 0,fz Fz.nil 2 0 fun i=>im (List.getD [] i default)])) false (some []) []])) ⟨(fun _ _=>⟨rfl,(mC (args':=[i6 0,ao (KL.mk [] Fz.nil)]) (eV _ _ (KL.mk [] Fz.nil) _ _) (by exact⟨Af _,Le.nil,trivial⟩) (Af _))⟩),(fun _ _=>⟨rfl,(jH _ _ _ _)⟩),(fun _ _=>⟨rfl,(jI _ _ _ _)⟩),?_,(fun _ _=>⟨rfl,(eV _ _ _ _ _)⟩),(fun _ _=>⟨rfl,(jH _ _ _ _)⟩),?_,(fun _ _=>⟨rfl,(eV _ _ _ _ _)⟩),(fun _ _=>⟨rfl,(jH _ _ _ _)⟩),?_,(fun _ _=>⟨rfl,(eV _ _ _ _ _)⟩),(fun _ _=>⟨rfl,(jI _ _ _ _)⟩),?_,(fun _ _=>⟨rfl,(eV _ _ _ _ _)⟩),(fun _ _=>⟨rfl,(jI _ _ _ _)⟩),?_,(fun _ _=>⟨rfl,(eV _ _ _ _ _)⟩),?_,omg,(fun c hc=>match c,hc with|0,_=>krf|1,_=>krf ),?_⟩
 ·subst e1;exact b9 (n:=2) (es:=2) krf (by exact⟨⟨⟨trivial,trivial⟩,trivial⟩,⟨⟨trivial,trivial⟩,trivial⟩,trivial⟩) rfl rfl (fun i hi j hj=>match i,hi,j,hj with|0,_,0,_=>krf|0,_,1,_=>krf|1,_,0,_=>krf|1,_,1,_=>krf ) (fun i hi j hj=>match i,hi,j,hj with|0,_,0,_=>trivial|0,_,1,_=>trivial|1,_,0,_=>trivial|1,_,1,_=>trivial )
 ·subst e2;exact b9 (n:=1) (es:=2) krf (by exact⟨⟨⟨trivial,trivial⟩,trivial⟩,trivial⟩) rfl rfl (fun i hi j hj=>match i,hi,j,hj with|0,_,0,_=>krf|0,_,1,_=>krf ) (fun i hi j hj=>match i,hi,j,hj with|0,_,0,_=>trivial|0,_,1,_=>trivial )
 ·subst e3;exact b9 (n:=1) (es:=2) krf (by exact⟨⟨⟨trivial,trivial⟩,trivial⟩,trivial⟩) rfl rfl (fun i hi j hj=>match i,hi,j,hj with|0,_,0,_=>krf|0,_,1,_=>krf ) (fun i hi j hj=>match i,hi,j,hj with|0,_,0,_=>trivial|0,_,1,_=>trivial )
 ·subst e4;exact b9 (n:=1) (es:=2) krf (by exact⟨⟨⟨trivial,trivial⟩,trivial⟩,trivial⟩) rfl rfl (fun i hi j hj=>match i,hi,j,hj with|0,_,0,_=>krf|0,_,1,_=>krf ) (fun i hi j hj=>match i,hi,j,hj with|0,_,0,_=>trivial|0,_,1,_=>trivial )
 ·subst e5;exact b9 (n:=1) (es:=2) krf (by exact⟨⟨⟨trivial,trivial⟩,trivial⟩,trivial⟩) rfl rfl (fun i hi j hj=>match i,hi,j,hj with|0,_,0,_=>krf|0,_,1,_=>krf ) (fun i hi j hj=>match i,hi,j,hj with|0,_,0,_=>trivial|0,_,1,_=>trivial )
 ·subst e1 e2 e3 e4 e5 f;exact b9 (n:=6) (es:=2) krf (by exact⟨⟨⟨trivial,trivial⟩,trivial⟩,⟨⟨trivial,trivial⟩,trivial⟩,⟨⟨trivial,trivial⟩,trivial⟩,⟨⟨trivial,trivial⟩,trivial⟩,⟨⟨trivial,trivial⟩,trivial⟩,⟨⟨trivial,trivial⟩,trivial⟩,trivial⟩) rfl rfl (fun i hi j hj=>match i,hi,j,hj with|0,_,0,_=>krf|0,_,1,_=>krf|1,_,0,_=>krf|1,_,1,_=>krf|2,_,0,_=>krf|2,_,1,_=>krf|3,_,0,_=>krf|3,_,1,_=>krf|4,_,0,_=>krf|4,_,1,_=>krf|5,_,0,_=>krf|5,_,1,_=>krf ) (fun i hi j hj=>match i,hi,j,hj with|0,_,0,_=>trivial|0,_,1,_=>trivial|1,_,0,_=>trivial|1,_,1,_=>trivial|2,_,0,_=>trivial|2,_,1,_=>trivial|3,_,0,_=>trivial|3,_,1,_=>trivial|4,_,0,_=>trivial|4,_,1,_=>trivial|5,_,0,_=>trivial|5,_,1,_=>trivial )
 ·refine(aq (bA (agg 2 (nth [i6 6,fz w.2 2 (w.l.length) fun (i:Nat)=>bx (w.l.getD i default)])) ([0+(TyI.mk ((fun (x:TypeInfo)=>x.desc) Tryd.prog.types[23]) Tryd.prog.types[24].size Tryd.prog.types[24].bytes (cB (dW (Value.agg #[Value.int i64 0,Value.slice none 0 0]))) (dl ((fun (x:TypeInfo)=>x.desc) Tryd.prog.types[23])) (ez Tryd.prog 24)).size<=2]) krf (by exact⟨dcd,trivial⟩) ⟨⟨trivial,trivial⟩,trivial⟩ rfl) (Ag krf))
theorem c_B (R:Res)(hp:List AObj)(g:R.σ):Does Tryd.prog R 45 [] hp g (.ret (av tB)) hp g:=by
 refine bG (fun R g=>?_) (by exact trivial) R hp g
 obtain⟨v1,e1⟩:∃v,v=tB1:=⟨_,rfl⟩
 obtain⟨v2,e2⟩:∃v,v=tB2:=⟨_,rfl⟩
 obtain⟨v3,e3⟩:∃v,v=tB3:=⟨_,rfl⟩
 obtain⟨v4,e4⟩:∃v,v=tB4:=⟨_,rfl⟩
 obtain⟨w,f⟩:∃v,v=tBR:=⟨_,rfl⟩
 show Does _ _ _ _ _ _ (.ret (av ⟨3,tBR⟩)) _ _
 rw[<-f]
 refine spW (nt:=15) (rs:=[.cell 0 24]) (k0:=0) ?_
 refine vcR [] (lkL [(0,[0]),(1,[0])]) (lkL [(1,[(0,ROrc.pcall (bW (Lit.mk 1 true))),(1,ROrc.kop (ao v1)),(2,ROrc.pcall (bS (Rule.mk 0 v1))),(3,ROrc.pcall (bW (Lit.mk 0 true))),(4,ROrc.kop (ao v2)),(5,ROrc.pcall (bS (Rule.mk 1 v2))),(6,ROrc.pcall (bW (Lit.mk 0 false))),(7,ROrc.kop (ao v3)),(8,ROrc.pcall (bS (Rule.mk 2 v3))),(9,ROrc.pcall (bW (Lit.mk 1 false))),(10,ROrc.kop (ao v4)),(11,ROrc.pcall (bS (Rule.mk 2 v4))),(12,ROrc.kop (ae w)),(14,ROrc.val (Orc.obj (nth [i6 3,ae w])))])]) (fun Q=>(fun (u1:List Row)=>(fun (u2:List AObj)=>(fun (u3:List Row)=>(fun (u4:Row)=>(fun (u5:AV)=>(∀(hp:List AObj) (g:R.σ),true=true/\Does Tryd.prog R 92 [i6 1] hp g (ret (agg 2 (nth [i6 1,AV.bool true]))) hp g)/\OpOk Tryd.prog R (Oper.mk (some 2) (Op.buildSlice 73 1 #[(0,Operand.tmp 1)]) 73 "law.go:25" #[Edge.mk 0 Ground.data] none) (evO [u4] [(0,ref 0 0)] []) u2 g (ao v1) u2 g/\(∀(hp:List AObj) (g:R.σ),true=true/\Does Tryd.prog R 90 [u5,ao v1] hp g (ret (agg 2 (nth [u5,ao v1]))) hp g)/\(∀(hp:List AObj) (g:R.σ),true=true/\Does Tryd.prog R 92 [u5] hp g (ret (agg 2 (nth [u5,AV.bool true]))) hp g)/\OpOk Tryd.prog R (Oper.mk (some 5) (Op.buildSlice 73 1 #[(0,Operand.tmp 4)]) 73 "law.go:25" #[Edge.mk 3 Ground.data] none) (evO [Row.mk (some 4) none (agg 2 (nth [u5,AV.bool true])) false (some []) [],Row.mk (some 3) none (agg 2 (nth [u5,ao v1])) false (some []) [],Row.mk (some 2) none (ao v1) true (some []) [],u4] [(0,ref 0 0)] []) u2 g (ao v2) u2 g/\(∀(hp:List AObj) (g:R.σ),true=true/\Does Tryd.prog R 90 [i6 1,ao v2] hp g (ret (agg 2 (nth [i6 1,ao v2]))) hp g)/\(∀(hp:List AObj) (g:R.σ),true=true/\Does Tryd.prog R 91 [u5] hp g (ret (agg 2 (nth [u5,AV.bool false]))) hp g)/\OpOk Tryd.prog R (Oper.mk (some 8) (Op.buildSlice 73 1 #[(0,Operand.tmp 7)]) 73 "law.go:25" #[Edge.mk 6 Ground.data] none) (evO u1 [(0,ref 0 0)] []) u2 g (ao v3) u2 g/\(∀(hp:List AObj) (g:R.σ),true=true/\Does Tryd.prog R 90 [i6 2,ao v3] hp g (ret (agg 2 (nth [i6 2,ao v3]))) hp g)/\(∀(hp:List AObj) (g:R.σ),true=true/\Does Tryd.prog R 91 [i6 1] hp g (ret (agg 2 (nth [i6 1,AV.bool false]))) hp g)/\OpOk Tryd.prog R (Oper.mk (some 11) (Op.buildSlice 73 1 #[(0,Operand.tmp 10)]) 73 "law.go:25" #[Edge.mk 9 Ground.data] none) (evO u3 [(0,ref 0 0)] []) u2 g (ao v4) u2 g/\(∀(hp:List AObj) (g:R.σ),true=true/\Does Tryd.prog R 90 [i6 2,ao v4] hp g (ret (agg 2 (nth [i6 2,ao v4]))) hp g)/\OpOk Tryd.prog R (Oper.mk (some 13) (Op.buildSlice 22 4 #[(0,Operand.tmp 3),(1,Operand.tmp 6),(2,Operand.tmp 9),(3,Operand.tmp 12)]) 22 "law.go:25" #[Edge.mk 2 Ground.data,Edge.mk 5 Ground.data,Edge.mk 8 Ground.data,Edge.mk 11 Ground.data] none) (evO (Row.mk (some 12) none (agg 2 (nth [i6 2,ao v4])) false (some []) []::Row.mk (some 11) none (ao v4) true (some []) []::u3) [(0,ref 0 0)] []) u2 g (ae w) u2 g/\2<=2/\(∀(c:Nat),c<2->nth [i6 3,ae w] c=am (nth [u5,fz Fz.nil 0 0 fun x x_1=>any]) 0 2 (List.brecOn (motive:=fun (x:List AV)=>Nat->AV) [i6 3,ae w] nth._f) c)/\Q AEx.ret (St.mk [(0,ref 0 0)] [cO 2 (nth [i6 3,ae w])] g)) (i6 0)) (Row.mk (some 1) none (agg 2 (nth [i6 1,AV.bool true])) false (some []) [])) (Row.mk (some 10) none (agg 2 (nth [i6 1,AV.bool false])) false (some []) []::Row.mk (some 9) none (agg 2 (nth [i6 2,ao v3])) false (some []) []::Row.mk (some 8) none (ao v3) true (some []) []::u1)) ([cO 2 (nth [i6 0,fz Fz.nil 0 0 fun x x_1=>any])])) ([Row.mk (some 7) none (agg 2 (nth [i6 0,AV.bool false])) false (some []) [],Row.mk (some 6) none (agg 2 (nth [i6 1,ao v2])) false (some []) [],Row.mk (some 5) none (ao v2) true (some []) [],Row.mk (some 4) none (agg 2 (nth [i6 0,AV.bool true])) false (some []) [],Row.mk (some 3) none (agg 2 (nth [i6 0,ao v1])) false (some []) [],Row.mk (some 2) none (ao v1) true (some []) [],Row.mk (some 1) none (agg 2 (nth [i6 1,AV.bool true])) false (some []) []])) ⟨(fun _ _=>⟨rfl,(jI _ _ _ _)⟩),?_,(fun _ _=>⟨rfl,(eV _ _ _ _ _)⟩),(fun _ _=>⟨rfl,(jI _ _ _ _)⟩),?_,(fun _ _=>⟨rfl,(eV _ _ _ _ _)⟩),(fun _ _=>⟨rfl,(jH _ _ _ _)⟩),?_,(fun _ _=>⟨rfl,(eV _ _ _ _ _)⟩),(fun _ _=>⟨rfl,(jH _ _ _ _)⟩),?_,(fun _ _=>⟨rfl,(eV _ _ _ _ _)⟩),?_,omg,(fun c hc=>match c,hc with|0,_=>krf|1,_=>krf ),?_⟩
 ·subst e1;exact b9 (n:=1) (es:=2) krf (by exact⟨⟨⟨trivial,trivial⟩,trivial⟩,trivial⟩) rfl rfl (fun i hi j hj=>match i,hi,j,hj with|0,_,0,_=>krf|0,_,1,_=>krf ) (fun i hi j hj=>match i,hi,j,hj with|0,_,0,_=>trivial|0,_,1,_=>trivial )
 ·subst e2;exact b9 (n:=1) (es:=2) krf (by exact⟨⟨⟨trivial,trivial⟩,trivial⟩,trivial⟩) rfl rfl (fun i hi j hj=>match i,hi,j,hj with|0,_,0,_=>krf|0,_,1,_=>krf ) (fun i hi j hj=>match i,hi,j,hj with|0,_,0,_=>trivial|0,_,1,_=>trivial )
 ·subst e3;exact b9 (n:=1) (es:=2) krf (by exact⟨⟨⟨trivial,trivial⟩,trivial⟩,trivial⟩) rfl rfl (fun i hi j hj=>match i,hi,j,hj with|0,_,0,_=>krf|0,_,1,_=>krf ) (fun i hi j hj=>match i,hi,j,hj with|0,_,0,_=>trivial|0,_,1,_=>trivial )
 ·subst e4;exact b9 (n:=1) (es:=2) krf (by exact⟨⟨⟨trivial,trivial⟩,trivial⟩,trivial⟩) rfl rfl (fun i hi j hj=>match i,hi,j,hj with|0,_,0,_=>krf|0,_,1,_=>krf ) (fun i hi j hj=>match i,hi,j,hj with|0,_,0,_=>trivial|0,_,1,_=>trivial )
 ·subst e1 e2 e3 e4 f;exact b9 (n:=4) (es:=2) krf (by exact⟨⟨⟨trivial,trivial⟩,trivial⟩,⟨⟨trivial,trivial⟩,trivial⟩,⟨⟨trivial,trivial⟩,trivial⟩,⟨⟨trivial,trivial⟩,trivial⟩,trivial⟩) rfl rfl (fun i hi j hj=>match i,hi,j,hj with|0,_,0,_=>krf|0,_,1,_=>krf|1,_,0,_=>krf|1,_,1,_=>krf|2,_,0,_=>krf|2,_,1,_=>krf|3,_,0,_=>krf|3,_,1,_=>krf ) (fun i hi j hj=>match i,hi,j,hj with|0,_,0,_=>trivial|0,_,1,_=>trivial|1,_,0,_=>trivial|1,_,1,_=>trivial|2,_,0,_=>trivial|2,_,1,_=>trivial|3,_,0,_=>trivial|3,_,1,_=>trivial )
 ·refine(aq (bA (agg 2 (nth [i6 3,fz w.2 2 (w.l.length) fun (i:Nat)=>bx (w.l.getD i default)])) ([0+(TyI.mk ((fun (x:TypeInfo)=>x.desc) Tryd.prog.types[23]) Tryd.prog.types[24].size Tryd.prog.types[24].bytes (cB (dW (Value.agg #[Value.int i64 0,Value.slice none 0 0]))) (dl ((fun (x:TypeInfo)=>x.desc) Tryd.prog.types[23])) (ez Tryd.prog 24)).size<=2]) krf (by exact⟨dcd,trivial⟩) ⟨⟨trivial,trivial⟩,trivial⟩ rfl) (Ag krf))
theorem y9 (R:Res)(hp:List AObj)(g:R.σ):Does Tryd.prog R 57 [] hp g (.ret (aU tS)) hp g:=by
 refine bG (fun R g=>?_) (by exact trivial) R hp g
 obtain⟨v1,e1⟩:∃v,v=tS1:=⟨_,rfl⟩
 obtain⟨v2,e2⟩:∃v,v=tS2:=⟨_,rfl⟩
 obtain⟨v3,e3⟩:∃v,v=tS3:=⟨_,rfl⟩
 obtain⟨w,f⟩:∃v,v=tS:=⟨_,rfl⟩
 rw[<-f]
 refine spW (nt:=8) (rs:=[.tmp 0]) (k0:=0) ?_
 refine vcR [] (lkL [(1,[0])]) (lkL [(1,[(0,ROrc.kop (aj v1)),(2,ROrc.kop (aj v2)),(4,ROrc.kop (aj v3)),(6,ROrc.kop (aU w))])]) (fun Q=>(fun (u1:List Row)=>OpOk Tryd.prog R (Oper.mk (some 1) (Op.buildSlice 53 1 #[(0,Operand.const (Value.int i64 0))]) 53 "law.go:30" #[] none) (evO [] [] []) [] g (aj v1) [] g/\OpOk Tryd.prog R (Oper.mk (some 3) (Op.buildSlice 53 2 #[(0,Operand.const (Value.int i64 2)),(1,Operand.const (Value.int i64 3))]) 53 "law.go:30" #[] none) (evO [Row.mk (some 2) none (agg 2 (nth [i6 0,aj v1])) false (some []) [],Row.mk (some 1) none (aj v1) true (some []) []] [] []) [] g (aj v2) [] g/\OpOk Tryd.prog R (Oper.mk (some 5) (Op.buildSlice 53 1 #[(0,Operand.const (Value.int i64 1))]) 53 "law.go:30" #[] none) (evO u1 [] []) [] g (aj v3) [] g/\OpOk Tryd.prog R (Oper.mk (some 7) (Op.buildSlice 29 3 #[(0,Operand.tmp 2),(1,Operand.tmp 4),(2,Operand.tmp 6)]) 29 "law.go:30" #[Edge.mk 1 Ground.data,Edge.mk 3 Ground.data,Edge.mk 5 Ground.data] none) (evO (Row.mk (some 6) none (agg 2 (nth [i6 1,aj v3])) false (some []) []::Row.mk (some 5) none (aj v3) true (some []) []::u1) [] []) [] g (aU w) [] g/\Q AEx.ret (St.mk [(0,aU w)] [] g)) ([Row.mk (some 4) none (agg 2 (nth [i6 (-1),aj v2])) false (some []) [],Row.mk (some 3) none (aj v2) true (some []) [],Row.mk (some 2) none (agg 2 (nth [i6 0,aj v1])) false (some []) [],Row.mk (some 1) none (aj v1) true (some []) []])) ⟨?_,?_,?_,?_,?_⟩
 ·subst e1;exact b9 (n:=1) (es:=1) krf (by exact⟨trivial,trivial⟩) rfl rfl (fun i hi j hj=>match i,hi,j,hj with|0,_,0,_=>krf ) (fun i hi j hj=>match i,hi,j,hj with|0,_,0,_=>trivial )
 ·subst e2;exact b9 (n:=2) (es:=1) krf (by exact⟨trivial,trivial,trivial⟩) rfl rfl (fun i hi j hj=>match i,hi,j,hj with|0,_,0,_=>krf|1,_,0,_=>krf ) (fun i hi j hj=>match i,hi,j,hj with|0,_,0,_=>trivial|1,_,0,_=>trivial )
 ·subst e3;exact b9 (n:=1) (es:=1) krf (by exact⟨trivial,trivial⟩) rfl rfl (fun i hi j hj=>match i,hi,j,hj with|0,_,0,_=>krf ) (fun i hi j hj=>match i,hi,j,hj with|0,_,0,_=>trivial )
 ·subst e1 e2 e3 f;exact b9 (n:=3) (es:=2) krf (by exact⟨⟨⟨trivial,trivial⟩,trivial⟩,⟨⟨trivial,trivial⟩,trivial⟩,⟨⟨trivial,trivial⟩,trivial⟩,trivial⟩) rfl rfl (fun i hi j hj=>match i,hi,j,hj with|0,_,0,_=>krf|0,_,1,_=>krf|1,_,0,_=>krf|1,_,1,_=>krf|2,_,0,_=>krf|2,_,1,_=>krf ) (fun i hi j hj=>match i,hi,j,hj with|0,_,0,_=>trivial|0,_,1,_=>trivial|1,_,0,_=>trivial|1,_,1,_=>trivial|2,_,0,_=>trivial|2,_,1,_=>trivial )
 ·refine(aq (aR _ _ rfl trivial rfl rfl rfl) (Ag krf))
theorem lA:aF tA=true:=by kernel_rfl
theorem za:aF tB=true:=by kernel_rfl
theorem zb:(ai tA).1=[⟨0,[0]⟩,⟨-1,[2,3]⟩,⟨1,[1]⟩]:=by kernel_rfl
theorem sd:(cU tA (ai tA).2).l=[2,2,1,1,3,3]:=by kernel_rfl
theorem se:ct tA=[1,12,2,48]:=by kernel_rfl
theorem zc:(ai (aA tA (hgP tA 1))).2 1=2:=by kernel_rfl
theorem zd:(dU (hgP tA 1) (bc (hgP tA 1) tA.rules.l 0) (ai (aA tA (hgP tA 1))).1).l.map de=tS.l.map de:=by kernel_rfl
theorem ze:(aB (cb tB)).length<=10:=by decide
theorem sf:stP tB 9=[6,5]:=by kernel_rfl
def tT:KL Step:=⟨[⟨1,tS3⟩],.opn⟩
def tV:KL Int:=⟨[2,2,1,1,3,3],.exa⟩
def tO1:KL Int:=⟨[0],.exa⟩
def tO2:KL Int:=⟨[2,3],.exa⟩
def tO3:KL Int:=⟨[1],.exa⟩
def tO4:KL Int:=⟨[4,5],.exa⟩
def tO (i:Nat):KL Int:=[tO1,tO2,tO3,tO4].getD i ⟨[],.nil⟩
def tM1:KL Int:=⟨[1,2],.exa⟩
def tM2:KL Int:=⟨[0,2],.exa⟩
def tM (i:Nat):KL Int:=[tM1,tM2].getD i ⟨[],.nil⟩
theorem zf:dS tA (fun _=>3) (tT.l.getD 0 default)=false:=by kernel_rfl
theorem zg:(bm (ai tA).1).l.map de=tS.l.map de:=by kernel_rfl
theorem zh:∀i,((bm (ai tA).1).l.getD i default).atoms.l.length<1000000:=by
 intro i
 match i with
 |0=>exact of_decide_eq_true krf
 |1=>exact of_decide_eq_true krf
 |2=>exact of_decide_eq_true krf
 |_+3=>exact of_decide_eq_true krf
theorem zi:∀i,((dU (hgP tA 1) (bc (hgP tA 1) tA.rules.l 0) (ai (aA tA (hgP tA 1))).1).l.getD i default).atoms.l.length<1000000:=by
 intro i
 match i with
 |0=>exact of_decide_eq_true krf
 |1=>exact of_decide_eq_true krf
 |2=>exact of_decide_eq_true krf
 |_+3=>exact of_decide_eq_true krf
theorem nY {s:Nat}:(af s).l.length<1000000:=by
 show(aB s).length<1000000
 rw[eS]
 have:=fV s
 omega
def lsX (n:Nat)(b:Nat->KL Int):AV:=.fz .exa 1 n (fun i _=>aj (b i))
theorem sg (R:Res)(n:Nat)(a b:Nat->KL Int)(hp:List AObj)(g:R.σ)(hn:n<1000000)(h:∀i,i<n->(a i).l=(b i).l)(hl:∀i,(a i).l.length<1000000) :
  Does Tryd.prog R 29 [bq n a,.fz .exa 1 n (fun i _=>aj (b i))] hp g (.ret (.bool true)) hp g:=by
 refine bG (fun R g=>?_) (by exact⟨trivial,trivial,trivial⟩) R hp g
 refine spW (nt:=34) (rs:=[.tmp 4]) (k0:=0) ?_
 refine vcR [] (lkL [(0,[0,1]),(1,[0,1,5])]) (fun _=>[]) (fun (Q:AEx->St R.σ->Prop)=>WpC Tryd.prog R 34 0 29 [1,0,1,0] Q [Kont.blk 0,Kont.seq [1,1]] (St.mk [(0,bq n a),(1,fz Fz.exa 1 n fun (i x:Nat)=>aj (b i)),(5,i6 0)] [] g)) (?_)
 refine(a8 krf (fun (i:Nat)=>⟨[(0,bq n a),(1,fz Fz.exa 1 n fun (i x:Nat)=>aj (b i)),(5,.int .i64 i)],[],g⟩) (fun (i:Nat)=>(i<=n)) (fun (i:Nat)=>(n-i)) 0 (aO ⟨Af _,Af _,(Ag krf),trivial⟩ rfl rfl) ?_ (fun i hi=>?_))
 ·omega
 ·have h1:=hl i
  refine vcR [] (lkL [(2,[0,1,5,16]),(4,[0,1,5,28]),(5,[4]),(3,[0,1,5])]) (lkL [(4,[(8,ROrc.pcall (AV.bool (decide ((a i).l=(b i).l))))])]) (fun Q=>(fun (u1:Bool)=>(fun (u2:Int)=>(u1=true->Flw Tryd.prog/\(0<=u2/\u2<(↑n:Int))/\1<=1/\(0<=u2/\u2<(↑n:Int))/\1<=1/\(∀(hp:List AObj) (g:R.σ),true=true/\Does Tryd.prog R 33 [aj (a i),aj (b i)] hp g (ret (AV.bool (decide ((a i).l=(b i).l)))) hp g)/\((!decide ((a i).l=(b i).l))=true->Q AEx.ret (St.mk [(4,AV.bool false)] [] g))/\((!decide ((a i).l=(b i).l))=false->(-9223372036854775808<=u2+1/\u2+1<=9223372036854775807)/\Q AEx.normal (St.mk [(0,bq n a),(1,fz Fz.exa 1 n fun i x=>aj (b i)),(5,i6 (u2+1))] [] g)))/\(u1=false->Q (AEx.exit 0) (St.mk [(0,bq n a),(1,fz Fz.exa 1 n fun i x=>aj (b i)),(5,i6 u2),(16,AV.bool u1)] [] g))) ((↑i:Int))) (bif decide ((↑i:Int)<(↑n:Int)) then(↑n:Int)==(↑n:Int) else false)) ⟨fun c1=>have c1:(↑i:Int)<(↑n:Int)/\(↑n:Int)=(↑n:Int):=⟨(of_decide_eq_true (bI c1).1),(beq_iff_eq.mp (bI c1).2)⟩;⟨krf,omg,omg,omg,omg,(fun _ _=>⟨rfl,(qL _ _ _ _ _ omg)⟩),fun c2=>have c2:¬(a i).l=(b i).l:=(of_decide_eq_false ((Bool.not_eq_true' _).mp c2));?_,fun c2=>have c2:(a i).l=(b i).l:=(of_decide_eq_true ((Bool.not_eq_false' _).mp c2));⟨omg,?_⟩⟩,fun c1=>have c1:¬(↑i:Int)<(↑n:Int)∨¬(↑n:Int)=(↑n:Int):=((dF c1).imp (fun h=>(of_decide_eq_false h)) (fun h=>(beq_eq_false_iff_ne.mp h)));?_⟩
  ·exact absurd (h i omg) c2
  ·refine(aQ (i+1) (aO ⟨Af _,Af _,(Ag krf),trivial⟩ rfl rfl) ?_ ?_)
   ·omega
   ·omega
  ·refine⟨_,Ar _,vcR [] (lkL [(6,[4])]) (fun _=>[]) (fun (Q:AEx->St R.σ->Prop)=>Q AEx.ret (St.mk [(4,AV.bool ((↑n:Int)==(↑n:Int)))] [] g)) (?_)⟩
   refine(aq (aR _ _ rfl trivial rfl rfl rfl) (Ag ?_))
   show(AV.bool ((↑n:Int)==(↑n:Int)))=_
   show AV.bool _=AV.bool _
   simp
theorem nZ (R:Res)[Tab LT R](g:R.σ):Does Tryd.prog R 15 [] [] g (.ret (.bool true)) [] g:=by
 have hD:∀(R:Res) [Tab LT R] (g:R.σ),Does Tryd.prog R 17 [av tA] [] g (.ret (.tup 3 (nth [aU (bm (ai tA).1),aj (cU tA (ai tA).2),.int .i64 0]))) [] g:=fun R _ g=>rx R tA lA g
 have hW:∀(R:Res) [Tab LT R] (g:R.σ),Does Tryd.prog R 23 [av tA,aU tT] [] g (.ret (.tup 2 (nth [.int .i64 0,.int .i64 7]))) [] g:=fun R _ g=>yg R tA tT lA dcd dcd zf g
 have hO:∀(R:Res) [Tab LT R] (g:R.σ),Does Tryd.prog R 31 [av tA] [] g (.ret (.tup 2 (nth [bq 4 (fun i=>af ((ct tA).getD i 0)),.int .i64 0]))) [] g:=fun R _ g=>by
  have h:=yU R tA lA g
  rw[show(ct tA).length=4 by rw[se];rfl] at h
  exact h
 have hN:∀(R:Res) [Tab LT R] (g:R.σ),Does Tryd.prog R 25 [av tA,.int .i64 1] [] g (.ret (.tup 3 (nth [.int .i64 2,aU (dU (hgP tA 1) (bc (hgP tA 1) tA.rules.l 0) (ai (aA tA (hgP tA 1))).1),.int .i64 0]))) [] g:=fun R _ g=>by
  have h:=x8 R tA 1 lA dcd g
  rw[show(1:Int).toNat=1 from rfl,zc] at h
  exact h
 have hT:∀(R:Res) [Tab LT R] (g:R.σ),Does Tryd.prog R 27 [av tB,.int .i64 9] [] g (.ret (.tup 2 (nth [bq 2 (fun i=>af ((stP tB 9).getD i 0)),.int .i64 0]))) [] g:=fun R _ g=>by
  have h:=sc R tB 9 za dcd ze g
  rw[show(stP tB 9).length=2 by rw[sf];rfl] at h
  exact h
 have hS1:∀(R:Res) (hp:List AObj) (g:R.σ),Does Tryd.prog R 20 [aU (bm (ai tA).1),aU tS] hp g (.ret (.bool true)) hp g:=fun R hp g=>by
  have h:=qM R (bm (ai tA).1) tS hp g (by rw[ru,zb];decide) zh
  rw[decide_eq_true zg] at h
  exact h
 have hV1:∀(R:Res) (hp:List AObj) (g:R.σ),Does Tryd.prog R 21 [aj (cU tA (ai tA).2),aj tV] hp g (.ret (.bool true)) hp g:=fun R hp g=>by
  have h:=wm R (cU tA (ai tA).2) tV hp g (by rw[sd];decide)
  rw[decide_eq_true (show(cU tA (ai tA).2).l=tV.l from sd)] at h
  exact h
 have hL1:∀(R:Res) (hp:List AObj) (g:R.σ),Does Tryd.prog R 29 [bq 4 (fun i=>af ((ct tA).getD i 0)),lsX 4 tO] hp g (.ret (.bool true)) hp g:=fun R hp g=>sg R 4 _ _ hp g dcd (fun i hi=>by
  rw[se]
  match i,hi with
  |0,_=>exact of_decide_eq_true krf
  |1,_=>exact of_decide_eq_true krf
  |2,_=>exact of_decide_eq_true krf
  |3,_=>exact of_decide_eq_true krf) (fun i=>nY)
 have hL2:∀(R:Res) (hp:List AObj) (g:R.σ),Does Tryd.prog R 29 [bq 2 (fun i=>af ((stP tB 9).getD i 0)),lsX 2 tM] hp g (.ret (.bool true)) hp g:=fun R hp g=>sg R 2 _ _ hp g dcd (fun i hi=>by
  rw[sf]
  match i,hi with
  |0,_=>exact of_decide_eq_true krf
  |1,_=>exact of_decide_eq_true krf) (fun i=>nY)
 have hS2:∀(R:Res) (hp:List AObj) (g:R.σ),Does Tryd.prog R 20 [aU (dU (hgP tA 1) (bc (hgP tA 1) tA.rules.l 0) (ai (aA tA (hgP tA 1))).1),aU tS] hp g (.ret (.bool true)) hp g:=fun R hp g=>by
  have h:=qM R (dU (hgP tA 1) (bc (hgP tA 1) tA.rules.l 0) (ai (aA tA (hgP tA 1))).1) tS hp g (of_decide_eq_true krf) zi
  rw[decide_eq_true zd] at h
  exact h
 have hA:∀(R:Res) (hp:List AObj) (g:R.σ),Does Tryd.prog R 44 [] hp g (.ret (av tA)) hp g:=fun R hp g=>c_A R hp g
 have hB:∀(R:Res) (hp:List AObj) (g:R.σ),Does Tryd.prog R 45 [] hp g (.ret (av tB)) hp g:=fun R hp g=>c_B R hp g
 have hC:∀(R:Res) (hp:List AObj) (g:R.σ),Does Tryd.prog R 57 [] hp g (.ret (aU tS)) hp g:=fun R hp g=>y9 R hp g
 obtain⟨n1,e1⟩:∃v,v=aU (bm (ai tA).1):=⟨_,rfl⟩
 obtain⟨n2,e2⟩:∃v,v=aj (cU tA (ai tA).2):=⟨_,rfl⟩
 obtain⟨n3,e3⟩:∃v,v=bq 4 (fun i=>af ((ct tA).getD i 0)):=⟨_,rfl⟩
 obtain⟨n4,e4⟩:∃v,v=aU (dU (hgP tA 1) (bc (hgP tA 1) tA.rules.l 0) (ai (aA tA (hgP tA 1))).1):=⟨_,rfl⟩
 obtain⟨n5,e5⟩:∃v,v=bq 2 (fun i=>af ((stP tB 9).getD i 0)):=⟨_,rfl⟩
 simp only[<-e1,<-e2,<-e3,<-e4,<-e5] at hD hO hN hT hS1 hV1 hL1 hL2 hS2
 obtain⟨a,ha⟩:∃v,v=tA:=⟨_,rfl⟩
 obtain⟨b,hb⟩:∃v,v=tB:=⟨_,rfl⟩
 obtain⟨s,hs⟩:∃v,v=tS:=⟨_,rfl⟩
 obtain⟨t,ht⟩:∃v,v=tT:=⟨_,rfl⟩
 obtain⟨v,hv⟩:∃v,v=tV:=⟨_,rfl⟩
 rw[<-ha] at hA hD hW hO hN
 rw[<-hb] at hB hT
 rw[<-hs] at hC hS1 hS2
 rw[<-ht] at hW
 rw[<-hv] at hV1
 obtain⟨o1,w1⟩:∃v,v=tO1:=⟨_,rfl⟩
 obtain⟨o2,w2⟩:∃v,v=tO2:=⟨_,rfl⟩
 obtain⟨o3,w3⟩:∃v,v=tO3:=⟨_,rfl⟩
 obtain⟨o4,w4⟩:∃v,v=tO4:=⟨_,rfl⟩
 obtain⟨m1,w5⟩:∃v,v=tM1:=⟨_,rfl⟩
 obtain⟨m2,w6⟩:∃v,v=tM2:=⟨_,rfl⟩
 obtain⟨q1,w7⟩:∃v,v=tO:=⟨_,rfl⟩
 obtain⟨q2,w8⟩:∃v,v=tM:=⟨_,rfl⟩
 rw[<-w7] at hL1
 rw[<-w8] at hL2
 refine spW (nt:=97) (rs:=[.tmp 0]) (k0:=0) ?_
 refine vcR [[1,1,1,1,1,1,0,1,0]] (lkL [(1,[1,2,3]),(2,[1,2,3,4,5]),(3,[1,2,3,4,5,6,7]),(4,[1,2,3,4,5,6,7,8,9,10]),(5,[1,2,3,4,5,6,7,8,9,10,11,12]),(6,[1,2,4,6,8,9,11,59]),(8,[0])]) (lkL [(1,[(0,ROrc.pcall (av a)),(1,ROrc.kcall (tup 3 (nth [n1,n2,i6 0])))]),(2,[(0,ROrc.pcall (av a)),(1,ROrc.pcall (aU s)),(2,ROrc.kop (aU t)),(3,ROrc.kcall (tup 2 (nth [i6 0,i6 7])))]),(3,[(0,ROrc.pcall (av a)),(1,ROrc.kcall (tup 2 (nth [n3,i6 0])))]),(4,[(0,ROrc.pcall (av a)),(1,ROrc.kcall (tup 3 (nth [i6 2,n4,i6 0])))]),(5,[(0,ROrc.pcall (av b)),(1,ROrc.kcall (tup 2 (nth [n5,i6 0])))]),(8,[(1,ROrc.pcall (aU s)),(2,ROrc.pcall (AV.bool true)),(5,ROrc.kop (aj v)),(6,ROrc.pcall (AV.bool true)),(14,ROrc.kop (aj o1)),(15,ROrc.kop (aj o2)),(16,ROrc.kop (aj o3)),(17,ROrc.kop (aj o4)),(18,ROrc.kop (lsX 4 q1)),(19,ROrc.pcall (AV.bool true)),(27,ROrc.pcall (aU s)),(28,ROrc.pcall (AV.bool true)),(32,ROrc.kop (aj m1)),(33,ROrc.kop (aj m2)),(34,ROrc.kop (lsX 2 q2)),(35,ROrc.pcall (AV.bool true))])]) (fun Q=>(fun (u1:List Row)=>(fun (u2:List Row)=>(fun (u3:List (Nat × AV))=>(fun (u4:List Row)=>(fun (u5:Operand)=>(fun (u6:Nat × Bool)=>(fun (u7:List Edge)=>(fun (u8:Operand)=>(fun (u9:List Row)=>(fun (u10:Operand)=>(fun (u11:List Row)=>(∀(hp:List AObj) (g:R.σ),true=true/\Does Tryd.prog R 44 [] hp g (ret (av a)) hp g)/\(true=true/\Does Tryd.prog R 17 [av a] [] g (ret (tup 3 (nth [n1,n2,i6 0]))) [] g)/\(∀(hp:List AObj) (g:R.σ),true=true/\Does Tryd.prog R 44 [] hp g (ret (av a)) hp g)/\(∀(hp:List AObj) (g:R.σ),true=true/\Does Tryd.prog R 57 [] hp g (ret (aU s)) hp g)/\OpOk Tryd.prog R (Oper.mk (some 22) (Op.slice 29 (Operand.tmp 21) (some u5) none none) 29 "law.go:36" #[Edge.mk 1 Ground.data] none) (evO [Row.mk (some 21) none (aU s) false (some []) [],Row.mk (some 20) none (av a) false (some []) []] [(1,n1),(2,n2),(3,i6 0)] []) [] g (aU t) [] g/\(true=true/\Does Tryd.prog R 23 [av a,aU t] [] g (ret (tup 2 (nth [i6 0,i6 7]))) [] g)/\(∀(hp:List AObj) (g:R.σ),true=true/\Does Tryd.prog R 44 [] hp g (ret (av a)) hp g)/\(true=true/\Does Tryd.prog R 31 [av a] [] g (ret (tup 2 (nth [n3,i6 0]))) [] g)/\(∀(hp:List AObj) (g:R.σ),true=true/\Does Tryd.prog R 44 [] hp g (ret (av a)) hp g)/\(true=true/\Does Tryd.prog R 25 [av a,i6 1] [] g (ret (tup 3 (nth [i6 2,n4,i6 0]))) [] g)/\(∀(hp:List AObj) (g:R.σ),true=true/\Does Tryd.prog R 45 [] hp g (ret (av b)) hp g)/\(true=true/\Does Tryd.prog R 27 [av b,i6 9] [] g (ret (tup 2 (nth [n5,i6 0]))) [] g)/\(false=true->WpC Tryd.prog R 97 0 15 [1,1,1,1,1,1,0,1,0] Q [Kont.seq [1,1,1,1,1,1,1]] (St.mk u3 [] g))/\(false=false->(∀(hp:List AObj) (g:R.σ),true=true/\Does Tryd.prog R 57 [] hp g (ret (aU s)) hp g)/\(∀(hp:List AObj) (g:R.σ),true=true/\Does Tryd.prog R 20 [n1,aU s] hp g (ret (AV.bool true)) hp g)/\(true=true->OpOk Tryd.prog R (Oper.mk (some 65) (Op.buildSlice 33 6 #[(0,u5),(1,u5),(2,u8),(3,u8),(4,u10),(5,u10)]) 33 "law.go:43" #[Edge.mk 3 Ground.guard] (some (3,true))) (evO [Row.mk (some 64) (some (3,true)) n2 false (some []) [],Row.mk (some 63) none (AV.bool true) false (some []) [],Row.mk (some 62) none (AV.bool true) false (some []) [],Row.mk (some 61) none (aU s) false (some []) [],Row.mk (some 60) none n1 false (some []) []] u3 [(3,true)]) [] g (aj v) [] g)/\(true=true->∀(hp:List AObj) (g:R.σ),true=true/\Does Tryd.prog R 21 [n2,aj v] hp g (ret (AV.bool true)) hp g)/\(true=true->OpOk Tryd.prog R (Oper.mk (some 74) (Op.buildSlice 53 1 #[(0,Operand.const (Value.int i64 0))]) 53 "law.go:43" (List.toArray u7) (some u6)) (evO u1 u3 [u6]) [] g (aj o1) [] g)/\(true=true->OpOk Tryd.prog R (Oper.mk (some 75) (Op.buildSlice 53 2 #[(0,u5),(1,u10)]) 53 "law.go:43" (List.toArray u7) (some u6)) (evO (Row.mk (some 74) (some u6) (aj o1) true (some []) []::u1) u3 [u6]) [] g (aj o2) [] g)/\(true=true->OpOk Tryd.prog R (Oper.mk (some 76) (Op.buildSlice 53 1 #[(0,u8)]) 53 "law.go:43" (List.toArray u7) (some u6)) (evO u4 u3 [u6]) [] g (aj o3) [] g)/\(true=true->OpOk Tryd.prog R (Oper.mk (some 77) (Op.buildSlice 53 2 #[(0,Operand.const (Value.int i64 4)),(1,Operand.const (Value.int i64 5))]) 53 "law.go:43" (List.toArray u7) (some u6)) (evO u11 u3 [u6]) [] g (aj o4) [] g)/\(true=true->OpOk Tryd.prog R (Oper.mk (some 78) (Op.buildSlice 49 4 #[(0,Operand.tmp 74),(1,Operand.tmp 75),(2,Operand.tmp 76),(3,Operand.tmp 77)]) 49 "law.go:43" (List.toArray (Edge.mk 14 Ground.data::Edge.mk 15 Ground.data::Edge.mk 16 Ground.data::Edge.mk 17 Ground.data::u7)) (some u6)) (evO (Row.mk (some 77) (some u6) (aj o4) true (some []) []::u11) u3 [u6]) [] g (fz Fz.exa 1 4 fun i x=>aj (q1 i)) [] g)/\(true=true->∀(hp:List AObj) (g:R.σ),true=true/\Does Tryd.prog R 29 [n3,fz Fz.exa 1 4 fun i x=>aj (q1 i)] hp g (ret (AV.bool true)) hp g)/\(true=true->∀(hp:List AObj) (g:R.σ),true=true/\Does Tryd.prog R 57 [] hp g (ret (aU s)) hp g)/\(true=true->∀(hp:List AObj) (g:R.σ),true=true/\Does Tryd.prog R 20 [n4,aU s] hp g (ret (AV.bool true)) hp g)/\(true=true->OpOk Tryd.prog R (Oper.mk (some 92) (Op.buildSlice 53 2 #[(0,u8),(1,u5)]) 53 "law.go:43" #[Edge.mk 30 Ground.guard] (some (30,true))) (evO u2 u3 [(30,true)]) [] g (aj m1) [] g)/\(true=true->OpOk Tryd.prog R (Oper.mk (some 93) (Op.buildSlice 53 2 #[(0,Operand.const (Value.int i64 0)),(1,u5)]) 53 "law.go:43" #[Edge.mk 30 Ground.guard] (some (30,true))) (evO u9 u3 [(30,true)]) [] g (aj m2) [] g)/\(true=true->OpOk Tryd.prog R (Oper.mk (some 94) (Op.buildSlice 49 2 #[(0,Operand.tmp 92),(1,Operand.tmp 93)]) 49 "law.go:43" #[Edge.mk 32 Ground.data,Edge.mk 33 Ground.data,Edge.mk 30 Ground.guard] (some (30,true))) (evO (Row.mk (some 93) (some (30,true)) (aj m2) true (some []) []::u9) u3 [(30,true)]) [] g (fz Fz.exa 1 2 fun i x=>aj (q2 i)) [] g)/\(true=true->∀(hp:List AObj) (g:R.σ),true=true/\Does Tryd.prog R 29 [n5,fz Fz.exa 1 2 fun i x=>aj (q2 i)] hp g (ret (AV.bool true)) hp g)/\Q AEx.ret (St.mk [(0,AV.bool true)] [] g))) (Row.mk (some 76) (some u6) (aj o3) true (some []) []::u4)) (Operand.const (Value.int i64 3))) (Row.mk (some 92) (some (30,true)) (aj m1) true (some []) []::u2)) (Operand.const (Value.int i64 1))) ([Edge.mk 12 Ground.guard])) ((12,true))) (Operand.const (Value.int i64 2))) (Row.mk (some 75) (some (12,true)) (aj o2) true (some []) []::Row.mk (some 74) (some (12,true)) (aj o1) true (some []) []::u1)) ([(1,n1),(2,n2),(4,i6 0),(6,n3),(8,i6 2),(9,n4),(11,n5),(59,AV.bool false)])) (Row.mk (some 91) (some (30,true)) n5 false (some []) []::Row.mk (some 90) none (AV.bool true) false (some []) []::Row.mk (some 89) none (AV.bool true) false (some []) []::Row.mk (some 88) (some (25,true)) (AV.bool true) false (some []) []::Row.mk (some 87) (some (25,true)) (aU s) false (some []) []::Row.mk (some 86) (some (25,true)) n4 false (some []) []::Row.mk (some 85) none (AV.bool true) false (some []) []::Row.mk (some 84) none (AV.bool true) false (some []) []::Row.mk (some 83) (some (21,true)) (AV.bool true) false (some []) []::Row.mk (some 82) (some (21,true)) (i6 2) false (some []) []::Row.mk (some 81) none (AV.bool true) false (some []) []::Row.mk (some 80) none (AV.bool true) false (some []) []::Row.mk (some 79) (some (12,true)) (AV.bool true) false (some []) []::Row.mk (some 78) (some (12,true)) (fz Fz.exa 1 4 fun i x=>aj (q1 i)) true (some []) []::Row.mk (some 77) (some (12,true)) (aj o4) true (some []) []::Row.mk (some 76) (some (12,true)) (aj o3) true (some []) []::Row.mk (some 75) (some (12,true)) (aj o2) true (some []) []::Row.mk (some 74) (some (12,true)) (aj o1) true (some []) []::u1)) ([Row.mk (some 73) (some (12,true)) n3 false (some []) [],Row.mk (some 72) none (AV.bool true) false (some []) [],Row.mk (some 71) none (AV.bool true) false (some []) [],Row.mk (some 70) (some (8,true)) (AV.bool true) false (some []) [],Row.mk (some 69) (some (8,true)) (i6 0) false (some []) [],Row.mk (some 68) none (AV.bool true) false (some []) [],Row.mk (some 67) none (AV.bool true) false (some []) [],Row.mk (some 66) (some (3,true)) (AV.bool true) false (some []) [],Row.mk (some 65) (some (3,true)) (aj v) true (some []) [],Row.mk (some 64) (some (3,true)) n2 false (some []) [],Row.mk (some 63) none (AV.bool true) false (some []) [],Row.mk (some 62) none (AV.bool true) false (some []) [],Row.mk (some 61) none (aU s) false (some []) [],Row.mk (some 60) none n1 false (some []) []])) ⟨(fun _ _=>⟨rfl,(hA _ _ _)⟩),⟨rfl,(hD _ _)⟩,(fun _ _=>⟨rfl,(hA _ _ _)⟩),(fun _ _=>⟨rfl,(hC _ _ _)⟩),?_,⟨rfl,(hW _ _)⟩,(fun _ _=>⟨rfl,(hA _ _ _)⟩),⟨rfl,(hO _ _)⟩,(fun _ _=>⟨rfl,(hA _ _ _)⟩),⟨rfl,(hN _ _)⟩,(fun _ _=>⟨rfl,(hB _ _ _)⟩),⟨rfl,(hT _ _)⟩,fun h=>(nomatch h),fun _=>⟨(fun _ _=>⟨rfl,(hC _ _ _)⟩),(fun _ _=>⟨rfl,(hS1 _ _ _)⟩),?_,(fun hgd=>(fun _ _=>⟨rfl,(hV1 _ _ _)⟩)),?_,?_,?_,?_,?_,(fun hgd=>(fun _ _=>⟨rfl,(hL1 _ _ _)⟩)),(fun hgd=>(fun _ _=>⟨rfl,(hC _ _ _)⟩)),(fun hgd=>(fun _ _=>⟨rfl,(hS2 _ _ _)⟩)),?_,?_,?_,(fun hgd=>(fun _ _=>⟨rfl,(hL2 _ _ _)⟩)),?_⟩⟩
 ·subst hs ht
  exact mP rfl (by exact⟨Nat.le_refl _,⟨dcd,dcd⟩,trivial⟩) (mA rfl (fun i j hi hj=>match i,hi with|0,_=>rfl))
 ·intro _;subst hv;exact b9 (n:=6) (es:=1) krf (by exact⟨trivial,trivial,trivial,trivial,trivial,trivial,trivial⟩) rfl rfl (fun i hi j hj=>match i,hi,j,hj with|0,_,0,_=>krf|1,_,0,_=>krf|2,_,0,_=>krf|3,_,0,_=>krf|4,_,0,_=>krf|5,_,0,_=>krf ) (fun i hi j hj=>match i,hi,j,hj with|0,_,0,_=>trivial|1,_,0,_=>trivial|2,_,0,_=>trivial|3,_,0,_=>trivial|4,_,0,_=>trivial|5,_,0,_=>trivial )
 ·intro _;subst w1;exact b9 (n:=1) (es:=1) krf (by exact⟨trivial,trivial⟩) rfl rfl (fun i hi j hj=>match i,hi,j,hj with|0,_,0,_=>krf ) (fun i hi j hj=>match i,hi,j,hj with|0,_,0,_=>trivial )
 ·intro _;subst w2;exact b9 (n:=2) (es:=1) krf (by exact⟨trivial,trivial,trivial⟩) rfl rfl (fun i hi j hj=>match i,hi,j,hj with|0,_,0,_=>krf|1,_,0,_=>krf ) (fun i hi j hj=>match i,hi,j,hj with|0,_,0,_=>trivial|1,_,0,_=>trivial )
 ·intro _;subst w3;exact b9 (n:=1) (es:=1) krf (by exact⟨trivial,trivial⟩) rfl rfl (fun i hi j hj=>match i,hi,j,hj with|0,_,0,_=>krf ) (fun i hi j hj=>match i,hi,j,hj with|0,_,0,_=>trivial )
 ·intro _;subst w4;exact b9 (n:=2) (es:=1) krf (by exact⟨trivial,trivial,trivial⟩) rfl rfl (fun i hi j hj=>match i,hi,j,hj with|0,_,0,_=>krf|1,_,0,_=>krf ) (fun i hi j hj=>match i,hi,j,hj with|0,_,0,_=>trivial|1,_,0,_=>trivial )
 ·intro _;subst w1 w2 w3 w4 w7;exact b9 (n:=4) (es:=1) krf (by exact⟨trivial,trivial,trivial,trivial,trivial⟩) rfl rfl (fun i hi j hj=>match i,hi,j,hj with|0,_,0,_=>krf|1,_,0,_=>krf|2,_,0,_=>krf|3,_,0,_=>krf ) (fun i hi j hj=>match i,hi,j,hj with|0,_,0,_=>trivial|1,_,0,_=>trivial|2,_,0,_=>trivial|3,_,0,_=>trivial )
 ·intro _;subst w5;exact b9 (n:=2) (es:=1) krf (by exact⟨trivial,trivial,trivial⟩) rfl rfl (fun i hi j hj=>match i,hi,j,hj with|0,_,0,_=>krf|1,_,0,_=>krf ) (fun i hi j hj=>match i,hi,j,hj with|0,_,0,_=>trivial|1,_,0,_=>trivial )
 ·intro _;subst w6;exact b9 (n:=2) (es:=1) krf (by exact⟨trivial,trivial,trivial⟩) rfl rfl (fun i hi j hj=>match i,hi,j,hj with|0,_,0,_=>krf|1,_,0,_=>krf ) (fun i hi j hj=>match i,hi,j,hj with|0,_,0,_=>trivial|1,_,0,_=>trivial )
 ·intro _;subst w5 w6 w8;exact b9 (n:=2) (es:=1) krf (by exact⟨trivial,trivial,trivial⟩) rfl rfl (fun i hi j hj=>match i,hi,j,hj with|0,_,0,_=>krf|1,_,0,_=>krf ) (fun i hi j hj=>match i,hi,j,hj with|0,_,0,_=>trivial|1,_,0,_=>trivial )
 ·refine(aq (aR _ _ rfl trivial rfl rfl rfl) (Af _))
def n6 {U:Type}(x:Fz × List U):KL U:=⟨x.2,x.1⟩
theorem zj:Rea Tryd.prog 77 2 (fun _:Lit=>True) im:=
 Rea.map (mL Tryd.underlying77 krf (ii rfl krf (kx Tryd.underlying3) (ii rfl krf (ve Tryd.underlying4) mK)))
  (fun x:Int × Bool × Unit=>⟨x.1,x.2.1⟩) (fun _ _=>trivial) (fun x j hj=>match j,hj with|0,_=>rfl|1,_=>rfl)
theorem zk:Rea Tryd.prog 73 1 (fun _:KL Lit=>True) (fun x _=>ao x):=
 Rea.map (mM Tryd.underlying73 krf omg zj) n6 (fun _ _=>trivial) (fun x j hj=>rfl)
theorem zl:Rea Tryd.prog 75 2 (fun _:Rule=>True) bx:=by
 have h:=mL (n:=2) Tryd.underlying75 krf (ii rfl (m:=1) krf (kx Tryd.underlying3) (ii rfl (m:=1) krf zk mK))
 exact h.map (fun x=>⟨x.1,x.2.1⟩) (fun _ _=>trivial) (fun x j hj=>match j,hj with|0,_=>rfl|1,_=>rfl)
theorem zm:Rea Tryd.prog 22 1 (fun _:KL Rule=>True) (fun x _=>ae x):=
 Rea.map (mM Tryd.underlying22 krf omg zl) n6 (fun _ _=>trivial) (fun x j hj=>rfl)
theorem zn:Rea Tryd.prog 24 2 (fun _:Prg=>True) (fun p=>nth [.int .i64 p.atoms,ae p.rules]):=by
 have h:=mL (n:=2) Tryd.underlying24 krf (ii rfl (m:=1) krf (kx Tryd.underlying3) (ii rfl (m:=1) krf zm mK))
 exact h.map (fun x=>⟨x.1,x.2.1⟩) (fun _ _=>trivial) (fun x j hj=>match j,hj with|0,_=>rfl|1,_=>rfl)
theorem zo:Arg Tryd.prog 24 (fun _:Prg=>True) av:=vj Tryd.underlying24 zn
structure OrdAll (p:Prg)(n left:Nat)(L:List Nat):Prop where
 is:∀i,i<L.length->∃A,A<n/\L.getD i 0=aw p A
 cov:∀a,left.testBit a=true->∃i,i<L.length/\(L.getD i 0).testBit a=true
 sub:∀i a,i<L.length->(L.getD i 0).testBit a=true->left.testBit a=true
 ord:∀i j a b,i<j->j<L.length->(L.getD i 0).testBit a=true->(L.getD j 0).testBit b=true->¬Reach p a b
theorem gM {s j:Nat}:(j:Int)∈aB s↔j<24/\s.testBit j=true:=by
 constructor
 ·intro h
  obtain⟨b,h1,h2⟩:=List.mem_map.1 h
  have:b=j:=by omega
  rw[<-this]
  exact Tb.mem_memN.1 h1
 ·exact fun h=>List.mem_map.2 ⟨j,Tb.mem_memN.2 h,rfl⟩
theorem lB {s:Nat}:∀a,a∈aB s->0<=a/\a<24/\s.testBit a.toNat=true:=by
 intro a ha
 obtain⟨b,h1,rfl⟩:=List.mem_map.1 ha
 obtain⟨h2,h3⟩:=Tb.mem_memN.1 h1
 exact⟨omg,omg,by simpa using h3⟩
structure CompOk (p:Prg)(n:Nat)(L:List Nat)(v:List Int):Prop where
 len:v.length=n
 at_:∀a,a<n->0<=v.getD a 0/\v.getD a 0<L.length
 up:∀a b,a<n->Reach p a b->b<n/\v.getD b 0<=v.getD a 0
 same:∀a b,a<n->(L.getD (v.getD a 0).toNat 0).testBit b=true->Reach p a b
def itB (D:List Bool->List Bool × Bool):Nat->List Bool->List Bool
 |0,s=>s
 |k+1,s=>if (D s).2 then itB D k (D s).1 else s
structure ItOk (D:List Bool->List Bool × Bool)(n:Nat)(T:List Bool)(x:List Bool × Bool):Prop where
 len:x.1.length=n
 go:x.2=true->∃f,cf x.1<f/\itB D f x.1=T
 stop:x.2=false->x.1=T
theorem zp {D:List Bool->List Bool × Bool}{n:Nat}{T s:List Bool}(hD:HgS (s,false) (D s))(h:ItOk D n T (s,true)):ItOk D n T (D s)/\(if (D s).2 then cf (D s).1+1 else 0)<cf s+1:=by
 obtain⟨h1,h2,_⟩:=h
 obtain⟨f,f1,f2⟩:=h2 rfl
 have f1:cf s<f:=f1
 have h1:s.length=n:=h1
 obtain⟨c1,c2,c3,c4,c5,c6⟩:=hD
 obtain⟨f,rfl⟩:∃k,f=k+1:=⟨f-1,omg⟩
 have f3:(if (D s).2 then itB D f (D s).1 else s)=T:=f2
 refine⟨⟨c1.trans h1,fun h=>⟨f,?_,?_⟩,fun h=>?_⟩,?_⟩
 ·have:cf (D s).1<cf s:=c5 h rfl
  omega
 ·rw[if_pos h] at f3
  exact f3
 ·rw[if_neg (by rw[h];decide)] at f3
  exact(c6 h).trans f3
 ·split
  ·rename_i h
   have:cf (D s).1<cf s:=c5 h rfl
   omega
  ·omega
def foL (set out:List Bool)(l:Lit):Bool:=l.neg && !set.getD l.atom.toNat false || !l.neg&&out.getD l.atom.toNat false
def foB (set out:List Bool)(r:Rule)(k:Nat):Bool:= !out.getD r.head.toNat false&&(r.body.l.take k).all (foL set out)
def foU (set:List Bool)(x:List Bool × Bool)(r:Rule):List Bool × Bool:=if foB set x.1 r r.body.l.length then(x.1.set r.head.toNat true,true) else x
def foD (p:Prg)(set s:List Bool):List Bool × Bool:=p.rules.l.foldl (foU set) (s,false)
def foR (p:Prg)(set:List Bool)(n:Nat):List Bool:=itB (foD p set) (n+1) (List.replicate n false)
theorem sh {set:List Bool}{x:List Bool × Bool}{r:Rule}(h:r.head.toNat<x.1.length):HgS x (foU set x r):=by
 unfold foU
 by_cases hb:foB set x.1 r r.body.l.length=true
 ·rw[if_pos hb]
  have h0:x.1.getD r.head.toNat false=false:=by
   unfold foB at hb
   rw[Bool.and_eq_true] at hb
   simpa using hb.1
  have:=yJ h h0
  exact⟨List.length_set,fun k hk=>yK hk,fun _=>rfl,by show cf (x.1.set _ true)<=_;omega,fun _ _=>by show cf (x.1.set _ true)<_;omega,fun h=>by cases h⟩
 ·rw[if_neg hb];exact HgS.refl x
theorem gN {set:List Bool}:∀{l:List Rule} {x:List Bool × Bool},(∀r,r∈l->r.head.toNat<x.1.length)->HgS x (l.foldl (foU set) x)
 |[],x,_=>HgS.refl x
 |r::l,x,h=>by
  have h1:=sh (set:=set) (x:=x) (h r List.mem_cons_self)
  exact h1.trans (gN (fun q hq=>by rw[h1.len];exact h q (List.mem_cons_of_mem _ hq)))
theorem jJ {D:List Bool->List Bool × Bool}{n:Nat}(hD:∀s,s.length=n->(D s).1.length=n):∀{k:Nat} {s:List Bool},s.length=n->(itB D k s).length=n
 |0,_,h=>h
 |k+1,s,h=>by
  show(if (D s).2 then itB D k (D s).1 else s).length=n
  split
  ·exact jJ hD (hD s h)
  ·exact h
theorem zq {set out:List Bool}{r:Rule}{k:Nat}(h:k<r.body.l.length):foB set out r (k+1)=(foB set out r k&&foL set out (r.body.l.getD k default)):=by
 unfold foB
 have e:r.body.l.getD k default=r.body.l[k]:=by rw[List.getD_eq_getElem?_getD,List.getElem?_eq_getElem h];rfl
 rw[List.take_add_one,List.all_append,List.getElem?_eq_getElem h,e]
 show(_&&(_&&(foL set out r.body.l[k]&&true)))=_
 rw[Bool.and_true,Bool.and_assoc]
theorem zr (R:Res)(p:Prg)(set:List Bool)(n:Nat)(hn:0<n/\n<=1000)(hset:set.length=n)(hpa:p.atoms=n)(hpl:p.rules.l.length<1000000)(hr:∀r,r∈p.rules.l->jD n r)(g:R.σ):Does Tryd.prog R 38 [av p,bY set] [] g (.ret (.ow true 0 n 1)) [cO (n*1) (aC (foR p set n))] g:=by
 have hroom:aG=140737488355328:=rfl
 have hrh:∀r,r∈p.rules.l->r.head.toNat<n:=fun r h=>by have:=(hr r h).2;omega
 have hDl:∀s,s.length=n->HgS (s,false) (foD p set s):=fun s hs=>gN (fun r h=>by rw[show(s,false).1.length=n from hs];exact hrh r h)
 have hRl:(foR p set n).length=n:=jJ (fun s hs=>(hDl s hs).len.trans hs) List.length_replicate
 refine spW (nt:=77) (rs:=[.tmp 4]) (k0:=0) ?_
 refine vcR [] (lkL [(0,[1,2]),(1,[1,2,5]),(2,[1,2,5,6])]) (fun _=>[]) (fun Q=>1<=2/\0<=p.atoms/\p.atoms<=p.atoms/\p.atoms<=140737488355328/\Int.toNat p.atoms*1<=aG/\WpC Tryd.prog R 77 0 38 [1,1,0,1,0] Q [Kont.blk 0,Kont.seq [1,1,1]] (St.mk [(1,fz Fz.auto 1 (List.length set) fun i x=>aC set i),(2,ref 0 0),(5,sl 1 0 (Int.toNat p.atoms) (Int.toNat p.atoms) true 1),(6,AV.bool true)] [cO 2 (nth [i6 p.atoms,ae p.rules]),cO (Int.toNat p.atoms*1) fun j=>AV.bool false] g)) ⟨omg,omg,omg,omg,omg,?_⟩
 rw[show p.atoms.toNat=n by omega]
 have hs0:(List.replicate n false).length=n:=List.length_replicate
 refine b8 (toL (s':=⟨[(1,bY set),(2,.ref 0 0),(5,.ow true 1 n 1),(6,.bool true)],[cO 2 (nth [.int .i64 p.atoms,ae p.rules]),cO (n*1) (aC (List.replicate n false))],g⟩) (h1:=?_) (h2:=?_)) ?_
 ·exact⟨Af _,Af _,Ao omg,Af _,trivial⟩
 ·exact⟨Ai _,⟨rfl,Nat.le_refl _,fun j _=>Ag yx.symm⟩,trivial⟩
 refine(a8 krf (fun (x:List Bool × Bool)=>⟨[(1,fz Fz.auto 1 (set.length) fun (i x:Nat)=>aC set i),(2,ref 0 0),(5,ow true 1 n 1),(6,.bool x.2)],[cO 2 (nth [.int .i64 p.atoms,ae p.rules]),cO (n*1) (aC x.1)],g⟩) (fun (x:List Bool × Bool)=>(ItOk (foD p set) n (foR p set n) x)) (fun (x:List Bool × Bool)=>(if x.2 then cf x.1+1 else 0)) (List.replicate n false,true) (aO ⟨Af _,Af _,Af _,Af _,trivial⟩ rfl rfl) ?_ (fun x hi=>?_))
 ·exact⟨hs0,fun _=>⟨n+1,Nat.lt_succ_of_le (by have:=List.count_le_length (a:=false) (l:=List.replicate n false);rw[hs0] at this;exact this),rfl⟩,fun h=>by cases h⟩
 ·obtain⟨s,ch⟩:=x
  have hok:=hi
  obtain⟨h1,h2,h3⟩:=hi
  simp only at h1 h2 h3
  cases ch with
  |false=>
   rw[h3 rfl]
   refine vcR [[1,1,0,1,0,0,0,1,0]] (lkL [(3,[1,2,5,15])]) (fun _=>[]) (fun Q=>(fun (u1:St R.σ)=>(false=true->WpC Tryd.prog R 77 0 38 [1,1,0,1,0,0,0,1,0] Q [Kont.seq [1,1,0,1,0,0,1]] u1)/\(false=false->Q (AEx.exit 0) u1)) (St.mk [(1,fz Fz.auto 1 (List.length set) fun i x=>aC set i),(2,ref 0 0),(5,ow true 1 n 1),(15,AV.bool false)] [cO 2 (nth [i6 p.atoms,ae p.rules]),cO (n*1) fun a=>aC (foR p set n) a] g)) ⟨fun h=>(nomatch h),fun _=>?_⟩
   refine⟨_,Ar _,vcR [] (lkL [(18,[4])]) (fun _=>[]) (fun (Q:AEx->St R.σ->Prop)=>Q AEx.ret (St.mk [(4,ow true 1 n 1)] [cO 2 (nth [i6 p.atoms,ae p.rules]),cO (n*1) fun (a:Nat)=>aC (foR p set n) a] g)) (?_)⟩
   show bw Tryd.prog R 0 _ _ _ _ .ret _
   exact eL (.ow true 1 n 1) _ rfl trivial (toS (s':=⟨[(0,.ow true 0 n 1)],[cO (n*1) (aC (foR p set n))],g⟩) [1] 2 (hob:=⟨Ai _,trivial⟩))
  |true=>
   have hnx:=zp (hDl s h1) hok
   refine vcR [[1,1,0,1,0,0,0,1,1]] (lkL [(3,[1,2,5,15]),(4,[1,2,5,6]),(5,[1,2,5,6,7])]) (fun _=>[]) (fun Q=>(fun (u1:List AObj)=>(fun (u2:AV)=>(true=true->WpC Tryd.prog R 77 0 38 [1,1,0,1,0,0,1,0,1,1,0] Q [Kont.blk 2,Kont.blk 1] (St.mk [(1,u2),(2,ref 0 0),(5,ow true 1 n 1),(6,AV.bool false),(7,i6 0)] u1 g))/\(true=false->WpC Tryd.prog R 77 0 38 [1,1,0,1,0,0,0,1,1] Q [Kont.seq [1,1,0,1,0,0,1]] (St.mk [(1,u2),(2,ref 0 0),(5,ow true 1 n 1),(15,AV.bool true)] u1 g))) (fz Fz.auto 1 (List.length set) fun i x=>aC set i)) ([cO 2 (nth [i6 p.atoms,ae p.rules]),cO (n*1) fun a=>aC s a])) ⟨fun _=>?_,fun h=>(nomatch h)⟩
   refine(a8 krf (fun (i:Nat)=>⟨[(1,fz Fz.auto 1 (set.length) fun (i x:Nat)=>aC set i),(2,ref 0 0),(5,ow true 1 n 1),(6,.bool ((p.rules.l.take i).foldl (foU set) (s,false)).2),(7,.int .i64 i)],[cO 2 (nth [.int .i64 p.atoms,ae p.rules]),cO (n*1) (aC ((p.rules.l.take i).foldl (foU set) (s,false)).1)],g⟩) (fun (i:Nat)=>(i<=p.rules.l.length)) (fun (i:Nat)=>(p.rules.l.length-i)) 0 (aO ⟨Af _,Af _,Af _,Af _,(Ag krf),trivial⟩ rfl rfl) ?_ (fun i hi=>?_))
   ·exact Nat.zero_le _
   ·rcases Nat.lt_or_ge i p.rules.l.length with hlt|hge
    ·have hm:=hr _ (fP hlt)
     have hm1:=hm.1
     have hm2:=hm.2
     have hbl:=hm1.1
     have hst:=lm (foU set) (s,false) p.rules.l default hlt
     have hyl:=(gN (set:=set) (l:=p.rules.l.take i) (x:=(s,false)) (fun r h=>by rw[show(s,false).1.length=n from h1];exact hrh r (List.mem_of_mem_take h))).len
     obtain⟨y,hy⟩:∃y,(p.rules.l.take i).foldl (foU set) (s,false)=y:=⟨_,rfl⟩
     rw[hy] at hst hyl ⊢
     have hyl:y.1.length=n:=hyl.trans h1
     obtain⟨t,b⟩:=y
     have hyl:t.length=n:=hyl
     have hB0:foB set t (p.rules.l.getD i default) 0 = !t.getD (p.rules.l.getD i default).head.toNat false:=Bool.and_true _
     refine vcR [] (lkL [(6,[1,2,5,6,7,20]),(8,[1,2,5,6,7,8]),(9,[1,2,5,6,7,8,9]),(10,[1,2,5,6,7,8,9,10])]) (lkL [(8,[(6,ROrc.val (Orc.obj (nth [i6 (List.getD p.rules.l i default).head,ao (List.getD p.rules.l i default).body])))])]) (fun Q=>(fun (u1:Rule)=>(fun (u2:Int)=>(fun (u3:Int)=>(fun (u4:List AV)=>(fun (u5:AV)=>(fun (u6:AObj)=>2<=2/\(decide (u3<u2)=true->2<=2/\(0<=u3/\u3<u2)/\2<=2/\2<=2/\(∀(c:Nat),c<2->nth u4 c=am (nth [i6 0,fz Fz.nil 0 0 fun x x_1=>any]) 0 2 (List.brecOn (motive:=fun (x:List AV)=>Nat->AV) u4 nth._f) c)/\1<=2/\(0<=u1.head/\u1.head<(↑n:Int))/\Int.toNat u1.head+1<=n*1/\WpC Tryd.prog R 77 0 38 [1,1,0,1,0,0,1,0,1,1,0,0,1,0,0,1,1,0,1,0] Q [Kont.blk 4,Kont.seq [1,1,0,1,0,0,1,0,1,1,0,0,1,0,0,1,1,1],Kont.blk 3,Kont.seq [1,1,0,1,0,0,1,0,1,1,0,0,1,1]] (St.mk [(1,u5),(2,ref 0 0),(5,ow true 1 n 1),(6,AV.bool b),(7,i6 u3),(8,ref 2 0),(9,AV.bool !List.getD t (Int.toNat u1.head) false),(10,i6 0)] [u6,cO (n*1) fun a=>aC t a,cO 2 (nth u4)] g))/\(decide (u3<u2)=false->Q (AEx.exit 2) (St.mk [(1,u5),(2,ref 0 0),(5,ow true 1 n 1),(6,AV.bool b),(7,i6 u3),(20,AV.bool (decide (u3<u2)))] [u6,cO (n*1) fun a=>aC t a] g))) (cO 2 (nth [i6 p.atoms,ae p.rules]))) (fz Fz.auto 1 (List.length set) fun i x=>aC set i)) ([i6 u1.head,ao u1.body])) ((↑i:Int))) ((↑(List.length p.rules.l):Int))) (List.getD p.rules.l i default)) ⟨omg,fun c1=>have c1:(↑i:Int)<(↑(List.length p.rules.l):Int):=(of_decide_eq_true c1);⟨omg,omg,omg,omg,(fun c hc=>match c,hc with|0,_=>krf|1,_=>krf ),omg,omg,omg,?_⟩,fun c1=>have c1:¬(↑i:Int)<(↑(List.length p.rules.l):Int):=(of_decide_eq_false c1);?_⟩
     ·refine(a8 krf (fun (k:Nat)=>⟨[(1,fz Fz.auto 1 (set.length) fun (i x:Nat)=>aC set i),(2,ref 0 0),(5,ow true 1 n 1),(6,AV.bool b),(7,i6 (i:Int)),(8,ref 2 0),(9,.bool (foB set t (p.rules.l.getD i default) k)),(10,.int .i64 k)],[cO 2 (nth [i6 p.atoms,ae p.rules]),cO (n*1) fun (a:Nat)=>aC t a,cO 2 (nth [i6 (p.rules.l.getD i default).head,ao (p.rules.l.getD i default).body])],g⟩) (fun (k:Nat)=>(k<=(p.rules.l.getD i default).body.l.length)) (fun (k:Nat)=>((p.rules.l.getD i default).body.l.length-k)) 0 (aO ⟨Af _,Af _,Af _,Af _,Af _,Af _,(Ag ?_),(Ag krf),trivial⟩ rfl rfl) ?_ (fun k hi=>?_))
      ·show AV.bool _=AV.bool _
       rw[hB0]
      ·exact Nat.zero_le _
      ·rcases Nat.lt_or_ge k (p.rules.l.getD i default).body.l.length with hk|hk
       ·have hml:=hm1.2 _ (bO (p.rules.l.getD i default).body.l default hk)
        have hBs:=zq (set:=set) (out:=t) (r:=p.rules.l.getD i default) hk
        refine vcR [] (lkL [(11,[1,2,5,6,7,8,9,10,38]),(13,[1,2,5,6,7,8,9,10,11]),(14,[1,2,5,6,7,8,9,10]),(12,[1,2,5,6,7,8,9,10])]) (lkL [(13,[(6,ROrc.val (Orc.obj (nth [i6 (List.getD (List.getD p.rules.l i default).body.l k default).atom,AV.bool (List.getD (List.getD p.rules.l i default).body.l k default).neg])))])]) (fun Q=>(fun (u1:Lit)=>(fun (u2:Rule)=>(fun (u3:Bool)=>(fun (u4:Int)=>(fun (u5:Int)=>(fun (u6:Bool)=>(fun (u7:AV)=>(fun (u8:List AV)=>(fun (u9:AObj)=>(fun (u10:AObj)=>2<=2/\(decide (u5<u4)=true->2<=2/\(0<=u5/\u5<u4)/\2<=2/\2<=2/\(∀(c:Nat),c<2->nth u8 c=am (nth [i6 0,AV.bool false]) 0 2 (List.brecOn (motive:=fun (x:List AV)=>Nat->AV) u8 nth._f) c)/\(u6=true->2<=2)/\((u6&&u1.neg)=true->1<=2)/\((u6&&u1.neg)=true->0<=u1.atom/\u1.atom<(↑(List.length set):Int))/\((u6&&u1.neg)=true->1<=1)/\((u6 && !u3)=true->2<=2)/\((u6 && !u3 && !u1.neg)=true->1<=2)/\((u6 && !u3 && !u1.neg)=true->0<=u1.atom/\u1.atom<(↑n:Int))/\((u6 && !u3 && !u1.neg)=true->Int.toNat u1.atom+1<=n*1)/\(-9223372036854775808<=u5+1/\u5+1<=9223372036854775807)/\Q AEx.normal (St.mk [(1,u7),(2,ref 0 0),(5,ow true 1 n 1),(6,AV.bool b),(7,i6 (↑i:Int)),(8,ref 2 0),(9,AV.bool (bif u6 then bif u3 then true else bif !u1.neg then List.getD t (Int.toNat u1.atom) false else false else false)),(10,i6 (u5+1))] [u9,cO (n*1) fun a=>aC t a,u10,cO 2 (nth u8)] g))/\(decide (u5<u4)=false->Q (AEx.exit 4) (St.mk [(1,u7),(2,ref 0 0),(5,ow true 1 n 1),(6,AV.bool b),(7,i6 (↑i:Int)),(8,ref 2 0),(9,AV.bool u6),(10,i6 u5),(38,AV.bool (decide (u5<u4)))] [u9,cO (n*1) fun a=>aC t a,u10] g))) (cO 2 (nth [i6 u2.head,ao u2.body]))) (cO 2 (nth [i6 p.atoms,ae p.rules]))) ([i6 u1.atom,AV.bool u1.neg])) (fz Fz.auto 1 (List.length set) fun i x=>aC set i)) (foB set t u2 k)) ((↑k:Int))) ((↑(List.length u2.body.l):Int))) (bif u1.neg then !List.getD set (Int.toNat u1.atom) false else false)) (List.getD p.rules.l i default)) (List.getD (List.getD p.rules.l i default).body.l k default)) ⟨omg,fun c1=>have c1:(↑k:Int)<(↑(List.length (List.getD p.rules.l i default).body.l):Int):=(of_decide_eq_true c1);⟨omg,omg,omg,omg,(fun c hc=>match c,hc with|0,_=>krf|1,_=>krf ),omg,omg,omg,omg,omg,omg,omg,omg,omg,?_⟩,fun c1=>have c1:¬(↑k:Int)<(↑(List.length (List.getD p.rules.l i default).body.l):Int):=(of_decide_eq_false c1);?_⟩
        ·refine(aQ (k+1) (toS [0,1,2] 4 (hfr:=⟨Af _,Af _,Af _,Af _,Af _,Af _,Ag ?_,Af _,trivial⟩) (hob:=⟨⟨rfl,Nat.le_refl _,fun j hj=>match j,hj with|0,_=>(Af _)|1,_=>(Af _) ⟩,?_,⟨rfl,Nat.le_refl _,fun j hj=>match j,hj with|0,_=>(Af _)|1,_=>(Af _) ⟩,trivial⟩)) ?_ ?_)
         ·show AV.bool _=AV.bool _
          rw[hBs]
          unfold foL
          cases foB set t (p.rules.l.getD i default) k <;> cases ((p.rules.l.getD i default).body.l.getD k default).neg <;> simp
         ·exact⟨rfl,Nat.le_refl _,fun j _=>Ag rfl⟩
         ·omega
         ·omega
        ·exfalso;omega
       ·have hke:k=(p.rules.l.getD i default).body.l.length:=by omega
        subst hke
        have hbb:decide (((p.rules.l.getD i default).body.l.length:Int)<((p.rules.l.getD i default).body.l.length:Int))=false:=decide_eq_false omg
        have hst:(p.rules.l.take (i+1)).foldl (foU set) (s,false)=if foB set t (p.rules.l.getD i default) (p.rules.l.getD i default).body.l.length then(t.set (p.rules.l.getD i default).head.toNat true,true) else(t,b):=hst
        refine vcR [[1,1,0,1,0,0,1,0,1,1,0,0,1,0,0,1,1,0,1,0,0,0,1,0]] (lkL [(11,[1,2,5,6,7,8,9,10,38])]) (fun _=>[]) (fun Q=>(fun (u1:Int)=>(fun (u2:St R.σ)=>2<=2/\(decide (u1<u1)=true->WpC Tryd.prog R 77 0 38 [1,1,0,1,0,0,1,0,1,1,0,0,1,0,0,1,1,0,1,0,0,0,1,0] Q [Kont.seq [1,1,0,1,0,0,1,0,1,1,0,0,1,0,0,1,1,0,1,0,0,1]] u2)/\(decide (u1<u1)=false->Q (AEx.exit 4) u2)) (St.mk [(1,fz Fz.auto 1 (List.length set) fun i x=>aC set i),(2,ref 0 0),(5,ow true 1 n 1),(6,AV.bool b),(7,i6 (↑i:Int)),(8,ref 2 0),(9,AV.bool (foB set t (List.getD p.rules.l i default) (List.length (List.getD p.rules.l i default).body.l))),(10,i6 u1),(38,AV.bool (decide (u1<u1)))] [cO 2 (nth [i6 p.atoms,ae p.rules]),cO (n*1) fun a=>aC t a,cO 2 (nth [i6 (List.getD p.rules.l i default).head,ao (List.getD p.rules.l i default).body])] g)) ((↑(List.length (List.getD p.rules.l i default).body.l):Int))) ⟨omg,fun hcc=>(nomatch (hbb.symm.trans hcc)),fun _=>?_⟩
        refine⟨_,Ar _,vcR [] (lkL [(15,[1,2,5,6,7,8,71]),(16,[1,2,5,7]),(17,[1,2,5,6,7])]) (fun _=>[]) (fun Q=>(fun (u1:Rule)=>(fun (u2:Bool)=>(fun (u3:AV)=>(fun (u4:AObj)=>(fun (u5:AObj)=>(u2=true->1<=2/\(0<=u1.head/\u1.head<(↑n:Int))/\Int.toNat u1.head+1<=n*1/\Q AEx.normal (St.mk [(1,u3),(2,ref 0 0),(5,ow true 1 n 1),(6,AV.bool true),(7,i6 (↑i:Int))] [u4,cO (n*1) (am (aC t) (Int.toNat u1.head) 1 fun x=>AV.bool true),u5] g))/\(u2=false->Q AEx.normal (St.mk [(1,u3),(2,ref 0 0),(5,ow true 1 n 1),(6,AV.bool b),(7,i6 (↑i:Int)),(8,ref 2 0),(71,AV.bool u2)] [u4,cO (n*1) fun a=>aC t a,u5] g))) (cO 2 (nth [i6 u1.head,ao u1.body]))) (cO 2 (nth [i6 p.atoms,ae p.rules]))) (fz Fz.auto 1 (List.length set) fun i x=>aC set i)) (foB set t u1 (List.length u1.body.l))) (List.getD p.rules.l i default)) ⟨fun c1=>⟨omg,omg,omg,?_⟩,fun c1=>?_⟩⟩
        ·rw[if_pos c1] at hst
         refine vcR [] (lkL [(7,[1,2,5,6,7])]) (fun _=>[]) (fun Q=>(fun (u1:Rule)=>(-9223372036854775808<=(↑i:Int)+1/\(↑i:Int)+1<=9223372036854775807)/\Q AEx.normal (St.mk [(1,fz Fz.auto 1 (List.length set) fun i x=>aC set i),(2,ref 0 0),(5,ow true 1 n 1),(6,AV.bool true),(7,i6 ((↑i:Int)+1))] [cO 2 (nth [i6 p.atoms,ae p.rules]),cO (n*1) (am (aC t) (Int.toNat u1.head) 1 fun x=>AV.bool true),cO 2 (nth [i6 u1.head,ao u1.body])] g)) (List.getD p.rules.l i default)) ⟨omg,?_⟩
         refine(aQ (i+1) (toS [0,1] 3 (hfr:=⟨Af _,Af _,Af _,Ag ?_,Af _,trivial⟩) (hob:=⟨⟨rfl,Nat.le_refl _,fun j hj=>match j,hj with|0,_=>(Af _)|1,_=>(Af _) ⟩,?_,trivial⟩)) ?_ ?_)
         ·show AV.bool _=AV.bool _
          rw[hst]
         ·exact⟨rfl,Nat.le_refl _,fun j _=>by
           rw[hst]
           exact Ag (yw omg)⟩
         ·omega
         ·omega
        ·rw[if_neg (by rw[c1];decide)] at hst
         refine vcR [] (lkL [(7,[1,2,5,6,7])]) (fun _=>[]) (fun Q=>(-9223372036854775808<=(↑i:Int)+1/\(↑i:Int)+1<=9223372036854775807)/\Q AEx.normal (St.mk [(1,fz Fz.auto 1 (List.length set) fun i x=>aC set i),(2,ref 0 0),(5,ow true 1 n 1),(6,AV.bool b),(7,i6 ((↑i:Int)+1))] [cO 2 (nth [i6 p.atoms,ae p.rules]),cO (n*1) fun a=>aC t a,cO 2 (nth [i6 (List.getD p.rules.l i default).head,ao (List.getD p.rules.l i default).body])] g)) ⟨omg,?_⟩
         refine(aQ (i+1) (toS [0,1] 3 (hfr:=⟨Af _,Af _,Af _,Ag ?_,Af _,trivial⟩) (hob:=⟨⟨rfl,Nat.le_refl _,fun j hj=>match j,hj with|0,_=>(Af _)|1,_=>(Af _) ⟩,?_,trivial⟩)) ?_ ?_)
         ·show AV.bool _=AV.bool _
          rw[hst]
         ·exact⟨rfl,Nat.le_refl _,fun j _=>by
           rw[hst]
           exact Ag (rfl)⟩
         ·omega
         ·omega
     ·exfalso;omega
    ·have hie:i=p.rules.l.length:=by omega
     subst hie
     rw[List.take_length]
     have hbb:decide ((p.rules.l.length:Int)<(p.rules.l.length:Int))=false:=decide_eq_false omg
     refine vcR [[1,1,0,1,0,0,1,0,1,1,0,0,0,1,0]] (lkL [(6,[1,2,5,6,7,20])]) (fun _=>[]) (fun Q=>(fun (u1:Int)=>(fun (u2:St R.σ)=>2<=2/\(decide (u1<u1)=true->WpC Tryd.prog R 77 0 38 [1,1,0,1,0,0,1,0,1,1,0,0,0,1,0] Q [Kont.seq [1,1,0,1,0,0,1,0,1,1,0,0,1]] u2)/\(decide (u1<u1)=false->Q (AEx.exit 2) u2)) (St.mk [(1,fz Fz.auto 1 (List.length set) fun i x=>aC set i),(2,ref 0 0),(5,ow true 1 n 1),(6,AV.bool (List.foldl (foU set) (s,false) p.rules.l).snd),(7,i6 u1),(20,AV.bool (decide (u1<u1)))] [cO 2 (nth [i6 p.atoms,ae p.rules]),cO (n*1) fun a=>aC (List.foldl (foU set) (s,false) p.rules.l).fst a] g)) ((↑(List.length p.rules.l):Int))) ⟨omg,fun hcc=>(nomatch (hbb.symm.trans hcc)),fun _=>?_⟩
     refine⟨_,Ar _,(aQ (foD p set s) (toL (h1:=⟨Af _,Af _,Af _,(Ag krf),trivial⟩)) ?_ ?_)⟩
     ·exact hnx.1
     ·exact hnx.2
def fY (l:List Rule)(set:Nat->Bool)(m:Nat->Bool):Prop:=∀r,r∈l->(∀y,y∈r.body.l->(y.neg=true->set y.atom.toNat=false)/\(y.neg=false->m y.atom.toNat=true))->m r.head.toNat=true
theorem zt {set:Nat->Bool}{s o:Nat}{r:Rule}{l:List Rule}{m:Nat->Bool}(hs:∀j,s.testBit j=set j)(hm:fY l set m)(hr:r∈l)(ho:∀j,o.testBit j=true->m j=true):∀j,(cK s o r).testBit j=true->m j=true:=by
 intro j hj
 unfold cK at hj
 split at hj
 ·exact ho j hj
 ·rename_i hn
  rw[dy,Bool.or_eq_true,decide_eq_true_eq] at hj
  rcases hj with hj|rfl
  ·exact ho j hj
  ·refine hm r hr (fun y hy=>?_)
   have hy2:dw s o y=false:=by
    cases hb:dw s o y with
    |false=>rfl
    |true=>exact absurd (List.any_eq_true.2 ⟨y,hy,hb⟩) hn
   unfold dw at hy2
   refine⟨fun h=>?_,fun h=>?_⟩
   ·rw[if_pos h,hs] at hy2;exact hy2
   ·rw[if_neg (by rw[h];decide),Bool.not_eq_false'] at hy2
    exact ho _ hy2
theorem sj {set:Nat->Bool}{s:Nat}{m:Nat->Bool}{l:List Rule}(hs:∀j,s.testBit j=set j)(hm:fY l set m):∀{l':List Rule} {o:Nat},(∀r,r∈l'->r∈l)->(∀j,o.testBit j=true->m j=true)->∀j,(aZ l' s o).testBit j=true->m j=true
 |[],_,_,ho=>ho
 |r::l',o,hl,ho=>by
  show ∀j,(aZ l' s (cK s o r)).testBit j=true->m j=true
  exact sj hs hm (fun q hq=>hl q (List.mem_cons_of_mem _ hq)) (zt hs hm (hl r List.mem_cons_self) ho)
theorem sk {set:Nat->Bool}{s:Nat}{m:Nat->Bool}{l:List Rule}(hs:∀j,s.testBit j=set j)(hm:fY l set m):∀{n o:Nat},(∀j,o.testBit j=true->m j=true)->∀j,(dR l s n o).testBit j=true->m j=true
 |0,_,ho=>ho
 |n+1,o,ho=>by
  show ∀j,(if aZ l s o=o then o else dR l s n (aZ l s o)).testBit j=true->m j=true
  split
  ·exact ho
  ·exact sk hs hm (sj hs hm (fun _ h=>h) ho)
theorem sm {set:Nat->Bool}{s:Nat}{m:Nat->Bool}{l:List Rule}(hs:∀j,s.testBit j=set j)(hm:fY l set m):∀j,(fol l s).testBit j=true->m j=true:=sk hs hm (fun j h=>by simp at h)
theorem sn {s:Nat}{l:List Rule}(hl:∀r,r∈l->aP r):∀{n o:Nat},o<2^24->2^24-o<n->aZ l s (dR l s n o)=dR l s n o/\dR l s n o<2^24
 |0,_,_,h=>absurd h (Nat.not_lt_zero _)
 |n+1,o,ho,h=>by
  show aZ l s (if aZ l s o=o then o else dR l s n (aZ l s o))=(if aZ l s o=o then o else dR l s n (aZ l s o))/\(if aZ l s o=o then o else dR l s n (aZ l s o))<2^24
  split
  ·rename_i e;exact⟨e,ho⟩
  ·rename_i e
   have h1:=nf l s o
   have h2:=ne (s:=s) (o:=o) hl ho
   exact sn hl h2 omg
theorem so {s:Nat}:∀{l:List Rule} {o:Nat},aZ l s o=o->∀r,r∈l->cK s o r=o
 |[],_,_=>fun r hr=>by cases hr
 |r::l,o,h=>by
  have h:aZ l s (cK s o r)=o:=h
  have h1:=nf l s (cK s o r)
  have h2:o<=cK s o r:=qT
  have e:cK s o r=o:=by omega
  rw[e] at h
  intro q hq
  rcases List.mem_cons.1 hq with rfl|hq
  ·exact e
  ·exact so h q hq
theorem zu {set:Nat->Bool}{s:Nat}{l:List Rule}(hl:∀r,r∈l->aP r)(hs:∀j,s.testBit j=set j):fY l set (fun j=>(fol l s).testBit j)/\fol l s<2^24:=by
 obtain⟨h1,h2⟩:=sn (s:=s) hl (n:=2^24+1) (o:=0) dcd omg
 refine⟨fun r hr hy=>?_,h2⟩
 have h3:=so h1 r hr
 have h3:cK s (fol l s) r=fol l s:=h3
 unfold cK at h3
 rw[if_neg] at h3
 ·show(fol l s).testBit r.head.toNat=true
  rw[<-h3,dy,decide_eq_true rfl,Bool.or_true]
 ·intro hn
  obtain⟨y,h4,h5⟩:=List.any_eq_true.1 hn
  obtain⟨h6,h7⟩:=hy y h4
  unfold dw at h5
  cases hng:y.neg with
  |true=>rw[if_pos hng,hs,h6 hng] at h5;cases h5
  |false=>
   have h8:(fol l s).testBit y.atom.toNat=true:=h7 hng
   rw[if_neg (by rw[hng];decide),h8] at h5
   cases h5
theorem n7 {set:List Bool}{l:List Rule}{m:Nat->Bool}(hm:fY l (fun j=>set.getD j false) m):∀{l':List Rule} {x:List Bool × Bool},(∀r,r∈l'->r∈l)->(∀j,x.1.getD j false=true->m j=true)->∀j,(l'.foldl (foU set) x).1.getD j false=true->m j=true
 |[],_,_,h=>h
 |r::l',x,hl,h=>by
  refine n7 hm (l':=l') (x:=foU set x r) (fun q hq=>hl q (List.mem_cons_of_mem _ hq)) (fun j hj=>?_)
  unfold foU at hj
  split at hj
  ·rename_i hb
   rcases yL hj with rfl|hj
   ·refine hm r (hl r List.mem_cons_self) (fun y hy=>?_)
    unfold foB at hb
    rw[Bool.and_eq_true,List.take_length,List.all_eq_true] at hb
    have h1:=hb.2 y hy
    unfold foL at h1
    refine⟨fun hng=>?_,fun hng=>?_⟩
    ·show set.getD y.atom.toNat false=false
     rw[hng] at h1
     simpa using h1
    ·rw[hng] at h1
     exact h _ (by simpa using h1)
   ·exact h j hj
  ·exact h j hj
theorem n9 {D:List Bool->List Bool × Bool}{m:Nat->Bool}(hD:∀s,(∀j,s.getD j false=true->m j=true)->∀j,(D s).1.getD j false=true->m j=true):∀{k:Nat} {s:List Bool},(∀j,s.getD j false=true->m j=true)->∀j,(itB D k s).getD j false=true->m j=true
 |0,_,h=>h
 |k+1,s,h=>by
  show ∀j,(if (D s).2 then itB D k (D s).1 else s).getD j false=true->m j=true
  split
  ·exact n9 hD (hD s h)
  ·exact h
theorem sq {D:List Bool->List Bool × Bool}{n:Nat}(hD:∀s,s.length=n->HgS (s,false) (D s)):∀{k:Nat} {s:List Bool},s.length=n->cf s<k->(D (itB D k s)).2=false
 |0,_,_,h=>absurd h (Nat.not_lt_zero _)
 |k+1,s,hs,h=>by
  show(D (if (D s).2 then itB D k (D s).1 else s)).2=false
  split
  ·rename_i hc
   have h1:=hD s hs
   have h2:cf (D s).1<cf s:=h1.less hc rfl
   exact sq hD (h1.len.trans hs) omg
  ·rename_i hc
   cases hb:(D s).2 with
   |false=>rfl
   |true=>exact absurd hb hc
theorem sr {set:List Bool}{n:Nat}:∀{l:List Rule} {x:List Bool × Bool},x.1.length=n->(∀r,r∈l->r.head.toNat<n)->(l.foldl (foU set) x).2=false->∀r,r∈l->foB set x.1 r r.body.l.length=false
 |[],_,_,_,_=>fun r hr=>by cases hr
 |r::l,x,hn,hl,h=>by
  have hrn:=hl r List.mem_cons_self
  have h1:=sh (set:=set) (x:=x) (r:=r) (by rw[hn];exact hrn)
  have hl2:∀q,q∈l->q.head.toNat<n:=fun q hq=>hl q (List.mem_cons_of_mem _ hq)
  have h2:=gN (set:=set) (l:=l) (x:=foU set x r) (fun q hq=>by rw[h1.len,hn];exact hl2 q hq)
  have hy:(foU set x r).2=false:=by
   cases hb:(foU set x r).2 with
   |false=>rfl
   |true=>
    have h3:=h2.ch hb
    have h:(l.foldl (foU set) (foU set x r)).2=false:=h
    rw[h] at h3
    cases h3
  have hs:=h1.same hy
  intro q hq
  rcases List.mem_cons.1 hq with rfl|hq
  ·cases hb:foB set x.1 q q.body.l.length with
   |false=>rfl
   |true=>
    unfold foU at hy
    rw[if_pos hb] at hy
    cases hy
  ·have:=sr (x:=foU set x r) (h1.len.trans hn) hl2 h q hq
   rw[hs] at this
   exact this
theorem su {p:Prg}{set:List Bool}{n:Nat}(hr:∀r,r∈p.rules.l->r.head.toNat<n):fY p.rules.l (fun j=>set.getD j false) (fun j=>(foR p set n).getD j false):=by
 have hD:∀s,s.length=n->HgS (s,false) (foD p set s):=fun s hs=>gN (fun r h=>by rw[show(s,false).1.length=n from hs];exact hr r h)
 have h0:(List.replicate n false).length=n:=List.length_replicate
 have hst:=sq hD (k:=n+1) h0 (Nat.lt_succ_of_le (by have:=List.count_le_length (a:=false) (l:=List.replicate n false);rw[h0] at this;exact this))
 have hlen:(foR p set n).length=n:=jJ (fun s hs=>(hD s hs).len.trans hs) h0
 intro r h hy
 have h1:=sr (set:=set) (x:=(foR p set n,false)) hlen hr hst r h
 show(foR p set n).getD r.head.toNat false=true
 cases hb:(foR p set n).getD r.head.toNat false with
 |true=>rfl
 |false=>
  exfalso
  have h1:foB set (foR p set n) r r.body.l.length=false:=h1
  unfold foB at h1
  rw[hb,List.take_length,Bool.not_false,Bool.true_and] at h1
  obtain⟨y,h2,h3⟩:=List.all_eq_false.1 h1
  obtain⟨h4,h5⟩:=hy y h2
  refine h3 ?_
  unfold foL
  cases hng:y.neg with
  |true=>
   have:set.getD y.atom.toNat false=false:=h4 hng
   rw[this]
   rfl
  |false=>
   have:(foR p set n).getD y.atom.toNat false=true:=h5 hng
   rw[this]
   rfl
theorem zv {p:Prg}{set:List Bool}{n s:Nat}(hr:∀r,r∈p.rules.l->aP r)(hrn:∀r,r∈p.rules.l->r.head.toNat<n)(hs:∀j,s.testBit j=set.getD j false)(j:Nat):(foR p set n).getD j false=(fol p.rules.l s).testBit j:=by
 rw[Bool.eq_iff_iff]
 constructor
 ·intro h
  exact n9 (D:=foD p set) (m:=fun j=>(fol p.rules.l s).testBit j) (fun s' h'=>n7 (zu hr hs).1 (fun _ h=>h) h') (fun k hk=>by
   rw[List.getD_eq_getElem?_getD,List.getElem?_replicate] at hk
   split at hk <;> cases hk) j h
 ·intro h
  exact sm hs (su hrn) j h
theorem sw (R:Res)(a b:List Bool)(n:Nat)(ha:a.length=n)(hb:b.length=n)(hn:n<1000000)(g:R.σ):Does Tryd.prog R 37 [bY a,bY b] [] g (.ret (.bool (!eU a b n))) [] g:=by
 refine spW (nt:=33) (rs:=[.tmp 4]) (k0:=0) ?_
 refine vcR [] (lkL [(0,[0,1]),(1,[0,1,5])]) (fun _=>[]) (fun (Q:AEx->St R.σ->Prop)=>WpC Tryd.prog R 33 0 37 [1,0,1,0] Q [Kont.blk 0,Kont.seq [1,1]] (St.mk [(0,fz Fz.auto 1 (List.length a) fun (i x:Nat)=>aC a i),(1,fz Fz.auto 1 (List.length b) fun (i x:Nat)=>aC b i),(5,i6 0)] [] g)) (?_)
 refine(a8 krf (fun (i:Nat)=>⟨[(0,fz Fz.auto 1 (a.length) fun (i x:Nat)=>aC a i),(1,fz Fz.auto 1 (b.length) fun (i x:Nat)=>aC b i),(5,.int .i64 i)],[],g⟩) (fun (i:Nat)=>(i<=n/\eU a b i=false)) (fun (i:Nat)=>(n-i)) 0 (aO ⟨Af _,Af _,(Ag krf),trivial⟩ rfl rfl) ?_ (fun i hi=>?_))
 ·exact⟨Nat.zero_le _,rfl⟩
 ·obtain⟨h2,h3⟩:=hi
  rcases Nat.lt_or_ge i n with hlt|hge
  ·refine vcR [] (lkL [(2,[0,1,5,16]),(4,[0,1,5,27]),(5,[4]),(3,[0,1,5])]) (fun _=>[]) (fun Q=>(fun (u1:Bool)=>(fun (u2:Int)=>(fun (u3:AV)=>(fun (u4:AV)=>(u1=true->Flw Tryd.prog/\(0<=u2/\u2<(↑(List.length a):Int))/\1<=1/\(0<=u2/\u2<(↑(List.length b):Int))/\1<=1/\((!List.getD a i false==List.getD b i false)=true->Q AEx.ret (St.mk [(4,AV.bool false)] [] g))/\((!List.getD a i false==List.getD b i false)=false->(-9223372036854775808<=u2+1/\u2+1<=9223372036854775807)/\Q AEx.normal (St.mk [(0,u3),(1,u4),(5,i6 (u2+1))] [] g)))/\(u1=false->Q (AEx.exit 0) (St.mk [(0,u3),(1,u4),(5,i6 u2),(16,AV.bool u1)] [] g))) (fz Fz.auto 1 (List.length b) fun i x=>aC b i)) (fz Fz.auto 1 (List.length a) fun i x=>aC a i)) ((↑i:Int))) (bif decide ((↑i:Int)<(↑(List.length a):Int)) then(↑(List.length a):Int)==(↑(List.length b):Int) else false)) ⟨fun c1=>have c1:(↑i:Int)<(↑(List.length a):Int)/\(↑(List.length a):Int)=(↑(List.length b):Int):=⟨(of_decide_eq_true (bI c1).1),(beq_iff_eq.mp (bI c1).2)⟩;⟨krf,omg,omg,omg,omg,fun c2=>have c2:(List.getD a i false==List.getD b i false)=false:=((Bool.not_eq_true' _).mp c2);?_,fun c2=>have c2:(List.getD a i false==List.getD b i false)=true:=((Bool.not_eq_false' _).mp c2);⟨omg,?_⟩⟩,fun c1=>have c1:¬(↑i:Int)<(↑(List.length a):Int)∨¬(↑(List.length a):Int)=(↑(List.length b):Int):=((dF c1).imp (fun h=>(of_decide_eq_false h)) (fun h=>(beq_eq_false_iff_ne.mp h)));?_⟩
   ·rw[yz hlt (by unfold bne;rw[c2];rfl)]
    refine⟨_,Ar _,(aq (aR _ _ rfl trivial rfl rfl rfl) (Ag krf))⟩
   ·refine(aQ (i+1) (aO ⟨Af _,Af _,(Ag krf),trivial⟩ rfl rfl) ?_ ?_)
    ·exact⟨omg,by rw[yy,h3];unfold bne;rw[c2];rfl⟩
    ·omega
   ·exfalso;omega
  ·have hie:i=n:=by omega
   subst hie
   rw[h3]
   refine vcR [] (lkL [(2,[0,1,5,16]),(4,[0,1,5,27]),(5,[4]),(3,[0,1,5])]) (fun _=>[]) (fun Q=>(fun (u1:Bool)=>(fun (u2:Int)=>(fun (u3:AV)=>(fun (u4:AV)=>(u1=true->Flw Tryd.prog/\(0<=u2/\u2<(↑(List.length a):Int))/\1<=1/\(0<=u2/\u2<(↑(List.length b):Int))/\1<=1/\((!List.getD a i false==List.getD b i false)=true->Q AEx.ret (St.mk [(4,AV.bool false)] [] g))/\((!List.getD a i false==List.getD b i false)=false->(-9223372036854775808<=u2+1/\u2+1<=9223372036854775807)/\Q AEx.normal (St.mk [(0,u3),(1,u4),(5,i6 (u2+1))] [] g)))/\(u1=false->Q (AEx.exit 0) (St.mk [(0,u3),(1,u4),(5,i6 u2),(16,AV.bool u1)] [] g))) (fz Fz.auto 1 (List.length b) fun i x=>aC b i)) (fz Fz.auto 1 (List.length a) fun i x=>aC a i)) ((↑i:Int))) (bif decide ((↑i:Int)<(↑(List.length a):Int)) then(↑(List.length a):Int)==(↑(List.length b):Int) else false)) ⟨fun c1=>have c1:(↑i:Int)<(↑(List.length a):Int)/\(↑(List.length a):Int)=(↑(List.length b):Int):=⟨(of_decide_eq_true (bI c1).1),(beq_iff_eq.mp (bI c1).2)⟩;⟨krf,omg,omg,omg,omg,fun c2=>have c2:(List.getD a i false==List.getD b i false)=false:=((Bool.not_eq_true' _).mp c2);?_,fun c2=>have c2:(List.getD a i false==List.getD b i false)=true:=((Bool.not_eq_false' _).mp c2);⟨omg,?_⟩⟩,fun c1=>have c1:¬(↑i:Int)<(↑(List.length a):Int)∨¬(↑(List.length a):Int)=(↑(List.length b):Int):=((dF c1).imp (fun h=>(of_decide_eq_false h)) (fun h=>(beq_eq_false_iff_ne.mp h)));?_⟩
   all_goals first|(exfalso;omega)|skip
   refine⟨_,Ar _,vcR [] (lkL [(6,[4])]) (fun _=>[]) (fun (Q:AEx->St R.σ->Prop)=>Q AEx.ret (St.mk [(4,AV.bool ((↑(List.length a):Int)==(↑(List.length b):Int)))] [] g)) (?_)⟩
   refine(aq (aR _ _ rfl trivial rfl rfl rfl) (Ag ?_))
   show(AV.bool ((↑(List.length a):Int)==(↑(List.length b):Int)))=_
   show AV.bool _=AV.bool _
   rw[ha,hb]
   simp
theorem sx (R:Res)(p:Prg)(set:List Bool)(n:Nat)(hn:0<n/\n<=1000)(hset:set.length=n)(hpa:p.atoms=n)(hpl:p.rules.l.length<1000000)(hr:∀r,r∈p.rules.l->jD n r)(g:R.σ):Does Tryd.prog R 38 [av p,bY set] [] g (.ret (bY (foR p set n))) [] g:=by
 refine fM (zr R p set n hn hset hpa hpl hr g) ?_
 have hD:∀s,s.length=n->HgS (s,false) (foD p set s):=fun s hs=>gN (fun r h=>by rw[show(s,false).1.length=n from hs];have:=(hr r h).2;omega)
 exact ik 0 [(0,bY (foR p set n))] (Nat.le_refl _) (Nat.zero_le _) (fun i hi=>absurd hi (Nat.not_lt_zero i)) ⟨yM (jJ (fun s hs=>(hD s hs).len.trans hs) List.length_replicate) rfl (Nat.zero_le _),trivial⟩
def ay (n s:Nat):List Bool:=(List.range n).map fun j=>s.testBit j
theorem lC {n s:Nat}:(ay n s).length=n:=by unfold ay;rw[List.length_map,List.length_range]
theorem fZ {n s j:Nat}(hs:∀j,s.testBit j=true->j<n):(ay n s).getD j false=s.testBit j:=by
 rcases Nat.lt_or_ge j n with hj|hj
 ·unfold ay
  rw[List.getD_eq_getElem?_getD,List.getElem?_map,List.getElem?_range hj]
  rfl
 ·rw[List.getD_eq_getElem?_getD,List.getElem?_eq_none (by rw[lC];exact hj)]
  cases hb:s.testBit j with
  |false=>rfl
  |true=>have:=hs j hb;omega
theorem oa {p:Prg}{n s:Nat}(hn:n<=24)(hr:∀r,r∈p.rules.l->aP r)(hrn:∀r,r∈p.rules.l->r.head.toNat<n)(hs:∀j,s.testBit j=true->j<n):(!eU (foR p (ay n s) n) (ay n s) n)=decide (fol p.rules.l s=s):=by
 have hf:∀j,(foR p (ay n s) n).getD j false=(fol p.rules.l s).testBit j:=fun j=>zv hr hrn (fun j=>(fZ hs).symm) j
 rw[Bool.eq_iff_iff,decide_eq_true_eq,Bool.not_eq_true']
 unfold eU
 rw[List.any_eq_false]
 constructor
 ·intro h
  refine Nat.eq_of_testBit_eq (fun j=>?_)
  rcases Nat.lt_or_ge j n with hj|hj
  ·have:=h j (List.mem_range.2 hj)
   rw[hf,fZ hs] at this
   simpa using this
  ·have h1:s.testBit j=false:=by
    cases hb:s.testBit j with
    |false=>rfl
    |true=>have:=hs j hb;omega
   have h2:(fol p.rules.l s).testBit j=false:=by
    cases hb:(fol p.rules.l s).testBit j with
    |false=>rfl
    |true=>
     have:=sm (set:=fun j=>s.testBit j) (s:=s) (l:=p.rules.l) (m:=fun j=>decide (j<n)) (fun _=>rfl) (fun r h _=>decide_eq_true (hrn r h)) j hb
     have:=of_decide_eq_true this
     omega
   rw[h1,h2]
 ·intro e j hj
  rw[hf,fZ hs,e]
  simp
structure ModC (p:Prg)(most n:Nat)(r:List Int):Prop where
 nn:∀(R:Res) (s:Nat) (g:R.σ),s<2^n->stF p most r s []=[]->Does Tryd.prog R 81 [av p,bY (ay n s),aj ⟨r,.may⟩,.int .i64 most,.fz .nil 0 0 (fun _ _=>.any)] [] g (.ret (.fz .nil 0 0 (fun _ _=>.any))) [] g
 nw:∀(R:Res) (s m:Nat) (L:List Nat) (g:R.σ),s<2^n->stF p most r s []=L->L≠[]->m=L.length->Does Tryd.prog R 81 [av p,bY (ay n s),aj ⟨r,.may⟩,.int .i64 most,.fz .nil 0 0 (fun _ _=>.any)] [] g (.ret (.ow true 0 m 1)) [cO (m*1) (aM L)] g
 on:∀(R:Res) (s m:Nat) (L:List Nat) (g:R.σ),s<2^n->L≠[]->m=L.length->m<=most->stF p most r s L=L->Does Tryd.prog R 81 [av p,bY (ay n s),aj ⟨r,.may⟩,.int .i64 most,.ow true 0 m 1] [cO (m*1) (aM L)] g (.ret (.ow true 0 m 1)) [cO (m*1) (aM L)] g
 ow:∀(R:Res) (s m m':Nat) (L L':List Nat) (g:R.σ),s<2^n->L≠[]->m=L.length->m<=most->stF p most r s L=L'->m'=L'.length->m≠m'->Does Tryd.prog R 81 [av p,bY (ay n s),aj ⟨r,.may⟩,.int .i64 most,.ow true 0 m 1] [cO (m*1) (aM L)] g (.ret (.ow true 1 m' 1)) [.dead,cO (m'*1) (aM L')] g
def od (b:Nat->Bool)(i:Nat):Nat->AV:=fun j=>.bool (decide (j<i)&&b j)
theorem qx {k:Nat}(b:Nat->Bool)(i j:Nat):Below k (od b i j):=trivial
theorem qG {f:Nat->Nat}(h:True){b:Nat->Bool}{i j:Nat}:aN f (od b i j)=od b i j:=rfl
theorem zw {p:Prg}{set:List Bool}{n:Nat}{m:Nat->Bool}(hm:fY p.rules.l (fun j=>set.getD j false) m):∀j,(foR p set n).getD j false=true->m j=true:=
 n9 (fun _ hs=>n7 hm (fun _ h=>h) hs) (fun j h=>by
  have:(List.replicate n false).getD j false=false:=by
   rw[List.getD_eq_getElem?_getD,List.getElem?_replicate]
   split <;> rfl
  rw[this] at h
  cases h)
theorem sy {p:Prg}{set:List Bool}{n:Nat}(hr:∀r,r∈p.rules.l->r.head.toNat<n):(foR p set n).length=n:=
 jJ (fun s' hs=>((gN (l:=p.rules.l) (set:=set) (x:=(s',false)) (fun r h=>by rw[show(s',false).1.length=n from hs];exact hr r h)).len).trans hs) List.length_replicate
structure Set2 (p:Prg)(v:Nat->Int):Prop where
 dom:∀a,v a=1∨v a=2∨v a=3
 rng:∀a,v a≠3->a<p.atoms.toNat
 yes:∃(rk:Nat->Nat) (N:Nat),∀a,v a=2->rk a<N/\∃r,r∈p.rules.l/\r.head.toNat=a/\cF v r=true/\∀l,l∈r.body.l->l.neg=false->rk l.atom.toNat<rk a
 no:∀a,v a=1->∀r,r∈p.rules.l->r.head.toNat=a->∃l,l∈r.body.l/\br v l=1
theorem lE {v w:Nat->Int}{l:Lit}(hk:∀a,v a≠3->w a=v a)(h:br v l≠3):br w l=br v l:=by
 have h3:v l.atom.toNat≠3:=fun e=>h (by unfold br;rw[e];simp)
 unfold br
 rw[hk _ h3]
theorem f6 {v:Nat->Int}{r:Rule}:cF v r=true↔∀l,l∈r.body.l->br v l=2:=by
 unfold cF
 rw[Bool.not_eq_true',List.any_eq_false]
 constructor
 ·intro h l hl
  have:=h l hl
  simpa using this
 ·intro h l hl
  simp[h l hl]
theorem oe {v w:Nat->Int}{r:Rule}(hk:∀a,v a≠3->w a=v a)(h:cF v r=true):cF w r=true:=
 f6.2 (fun l hl=>by
  have:=f6.1 h l hl
  rw[lE hk (by rw[this];decide),this])
theorem jK {v:Nat->Int}{l:Lit}(hd:∀a,v a=1∨v a=2∨v a=3):br v l=2↔(if l.neg then v l.atom.toNat=1 else v l.atom.toNat=2):=by
 unfold br
 rcases hd l.atom.toNat with h|h|h <;> rw[h] <;> cases l.neg <;> simp
theorem zx (p:Prg):Set2 p (fun _=>3):=
 ⟨fun _=>.inr (.inr rfl),fun _ h=>absurd rfl h,⟨fun _=>0,0,fun _ h=>absurd h dcd⟩,fun _ h=>absurd h dcd⟩
theorem zy {p:Prg}{v:Nat->Int}(hp:cj p)(hr:∀r,r∈p.rules.l->aP r)(hh:dj p)(h:Set2 p v)(hb:aX p v=true):Set2 p (bE v (al p v))/\∀a,v a≠3->bE v (al p v) a=v a:=by
 by_cases hf:0<=bi p v
 ·have hit:=iw (cS v) default p.rules.l 0 hf
  obtain⟨k,hk,he,hq,_⟩:=hit
  have he:bi p v=(k:Nat):=by rw[show bi p v=aE (cS v) p.rules.l 0 from rfl,he,Nat.zero_add]
  have hn:al p v=⟨bi p v,[(p.rules.l.getD (bi p v).toNat default).head]⟩:=if_pos hf
  obtain⟨r,hrr⟩:∃r,p.rules.l.getD k default=r:=⟨_,rfl⟩
  have hrm:r∈p.rules.l:=by rw[<-hrr];exact fP hk
  rw[hrr] at hq
  have ha:bE v (al p v)=dh v r.head.toNat 2:=by
   rw[hn,he]
   show(if ((k:Nat):Int) = -1 then _ else dh v (p.rules.l.getD (Int.toNat ((k:Nat):Int)) default).head.toNat 2)=_
   rw[if_neg omg,Int.toNat_natCast,hrr]
  rw[ha]
  unfold cS at hq
  rw[Bool.and_eq_true,beq_iff_eq] at hq
  have hkeep:∀a,v a≠3->dh v r.head.toNat 2 a=v a:=fun a h3=>if_neg (fun e=>h3 (by rw[e];exact hq.1))
  have hself:dh v r.head.toNat 2 r.head.toNat=2:=if_pos rfl
  refine⟨⟨fun a=>?_,fun a h3=>?_,?_,fun a h1=>?_⟩,hkeep⟩
  ·unfold dh
   split
   ·exact .inr (.inl rfl)
   ·exact h.dom a
  ·by_cases e:a=r.head.toNat
   ·subst e
    have:=hh r hrm
    have:=(hr r hrm).2
    omega
   ·exact h.rng a (fun e3=>h3 (by unfold dh;rw[if_neg e];exact e3))
  ·obtain⟨rk,N,hrk⟩:=h.yes
   have hbody:=oe hkeep hq.2
   refine⟨fun a=>if a=r.head.toNat then N else rk a,N+1,fun a h2=>?_⟩
   dsimp only
   by_cases e:a=r.head.toNat
   ·subst e
    rw[if_pos rfl]
    refine⟨Nat.lt_succ_self _,r,hrm,rfl,hbody,fun l hl hneg=>?_⟩
    have h2':=(jK h.dom).1 (f6.1 hq.2 l hl)
    rw[hneg] at h2'
    have h2':v l.atom.toNat=2:=h2'
    rw[if_neg (fun e=>by rw[e,hq.1] at h2';cases h2')]
    exact(hrk _ h2').1
   ·have h2:v a=2:=by
     unfold dh at h2
     rw[if_neg e] at h2
     exact h2
    obtain⟨b1,q,b2,b3,b4,b5⟩:=hrk a h2
    rw[if_neg e]
    refine⟨omg,q,b2,b3,oe hkeep b4,fun l hl hneg=>?_⟩
    have h2':=(jK h.dom).1 (f6.1 b4 l hl)
    rw[hneg] at h2'
    have h2':v l.atom.toNat=2:=h2'
    rw[if_neg (fun e=>by rw[e,hq.1] at h2';cases h2')]
    exact b5 l hl hneg
  ·intro q hqm hqa
   by_cases e:a=r.head.toNat
   ·rw[e,hself] at h1
    cases h1
   ·have h1:v a=1:=by
     unfold dh at h1
     rw[if_neg e] at h1
     exact h1
    obtain⟨l,hl,h1l⟩:=h.no a h1 q hqm hqa
    exact⟨l,hl,by rw[lE hkeep (by rw[h1l];decide),h1l]⟩
 ·obtain⟨e1,_,_,e4,e5⟩:=lg hp hf hb
  obtain⟨_,g2,g3⟩:=iu v hp
  have hgu:=yI (f:=v) hp hr
  rw[e1] at e4
  have e4:bE v (al p v)=cA v (gre p v):=by rw[e1,e4];show cA v (bP (aB (gre p v)))=_;rw[ny g3]
  rw[e4]
  have hopen:∀a,(gre p v).testBit a=true->a<p.atoms.toNat/\v a=3:=fun a ha=>by
   have:=g2 a ha
   rw[ew,Bool.and_eq_true,decide_eq_true_eq,decide_eq_true_eq] at this
   exact this
  have hkeep:∀a,v a≠3->cA v (gre p v) a=v a:=fun a h3=>if_neg (fun hb=>h3 (hopen a hb).2)
  refine⟨⟨fun a=>?_,fun a h3=>?_,?_,fun a h1=>?_⟩,hkeep⟩
  ·unfold cA
   split
   ·exact .inl rfl
   ·exact h.dom a
  ·by_cases e:(gre p v).testBit a=true
   ·exact(hopen a e).1
   ·exact h.rng a (fun e3=>h3 (by unfold cA;rw[if_neg e];exact e3))
  ·obtain⟨rk,N,hrk⟩:=h.yes
   refine⟨rk,N,fun a h2=>?_⟩
   have h2:v a=2:=by
    unfold cA at h2
    split at h2
    ·cases h2
    ·exact h2
   obtain⟨b1,q,b2,b3,b4,b5⟩:=hrk a h2
   exact⟨b1,q,b2,b3,oe hkeep b4,b5⟩
  ·intro q hqm hqa
   by_cases e:(gre p v).testBit a=true
   ·have:=hgu q hqm (by rw[hqa];exact e)
    rw[List.any_eq_true] at this
    obtain⟨l,hl,hbl⟩:=this
    refine⟨l,hl,?_⟩
    unfold blk at hbl
    rw[Bool.or_eq_true,beq_iff_eq,Bool.and_eq_true] at hbl
    rcases hbl with h1l|⟨hn,hm⟩
    ·rw[lE hkeep (by rw[h1l];decide),h1l]
    ·unfold br cA
     rw[if_pos (by rw[hn];rfl),if_pos hm]
   ·have h1:v a=1:=by
     unfold cA at h1
     rw[if_neg e] at h1
     exact h1
    obtain⟨l,hl,h1l⟩:=h.no a h1 q hqm hqa
    exact⟨l,hl,by rw[lE hkeep (by rw[h1l];decide),h1l]⟩
theorem sz {p:Prg}(hp:cj p)(hr:∀r,r∈p.rules.l->aP r)(hh:dj p):∀(k:Nat) (v:Nat->Int) (l:List Stp),Set2 p v->cr p v<k->Set2 p (dk p k v l).2/\aX p (dk p k v l).2=false
 |0,_,_,_,h=>absurd h (Nat.not_lt_zero _)
 |k+1,v,l,h,hk=>by
  show Set2 p (if aX p v then dk p k (bE v (al p v)) (l++[al p v]) else(l,v)).2/\aX p (if aX p v then dk p k (bE v (al p v)) (l++[al p v]) else(l,v)).2=false
  by_cases hb:aX p v=true
  ·rw[if_pos hb]
   exact sz hp hr hh k _ _ (zy hp hr hh h hb).1 (by have:=lj hp hr hh hb;omega)
  ·rw[if_neg hb]
   exact⟨h,by simpa using hb⟩
structure Fin2 (p:Prg)(v:Nat->Int):Prop extends Set2 p v where
 fire:∀r,r∈p.rules.l->cF v r=true->v r.head.toNat=2
 unf:∀m:Nat->Bool,jF p v m->(∀j,m j=true->j<p.atoms.toNat/\v j=3)->∀j,m j=false
theorem zz {p:Prg}(hp:cj p)(hr:∀r,r∈p.rules.l->aP r)(hh:dj p):Fin2 p (ai p).2:=by
 have hd:Set2 p (ai p).2/\aX p (ai p).2=false:=sz hp hr hh 25 (fun _=>3) [] (zx p) (by have:=lh p (fun _=>3);have:=hp.2;omega)
 obtain⟨h,hb⟩:=hd
 obtain⟨h1,h2⟩:=xp hb
 have hm:=(nz (cS (ai p).2) p.rules.l 0 h1).2
 refine⟨h,fun r hrm hbd=>?_,fun m hu ho j=>?_⟩
 ·have hf:=hm r hrm
  unfold cS at hf
  rw[hbd,Bool.and_true,beq_eq_false_iff_ne] at hf
  rcases h.dom r.head.toNat with e|e|e
  ·obtain⟨l,hl,h1l⟩:=h.no _ e r hrm rfl
   have:=f6.1 hbd l hl
   rw[h1l] at this
   cases this
  ·exact e
  ·exact absurd e hf
 ·cases hmj:m j with
  |false=>rfl
  |true=>
   have:=yH hp (fun r hrm=>(hr r hrm).2.1) hu ho hmj
   rw[show gre p (ai p).2=0 from h2] at this
   simp at this
theorem zA {p:Prg}{v:Nat->Int}{n:Nat}{can:List Bool}(h:Fin2 p v)(hn:p.atoms.toNat=n)(hrn:∀r,r∈p.rules.l->jD n r)(hcan:∀j,j<n->can.getD j false=(v j != 1)):∀j,(foR p can n).getD j false=true↔v j=2:=by
 have hlit:∀r,r∈p.rules.l->∀l,l∈r.body.l->l.atom.toNat<n:=fun r hrm l hl=>by have:=(hrn r hrm).1.2 l hl;omega
 have hdom:=h.dom
 intro j
 constructor
 ·intro hj
  have:=zw (p:=p) (set:=can) (n:=n) (m:=fun j=>v j==2) (fun r hrm hb=>by
   have hbd:cF v r=true:=f6.2 (fun l hl=>by
    rw[jK hdom]
    obtain⟨c1,c2⟩:=hb l hl
    cases hneg:l.neg with
    |true=>
     have:=c1 hneg
     dsimp only at this
     rw[hcan _ (hlit r hrm l hl)] at this
     simpa using this
    |false=>
     have:=c2 hneg
     simpa using this)
   dsimp only
   rw[h.fire r hrm hbd]
   rfl) j hj
  simpa using this
 ·obtain⟨rk,N,hrk⟩:=h.yes
  have key:∀k a,rk a<k->v a=2->(foR p can n).getD a false=true:=by
   intro k
   induction k with
   |zero=>intro a ha;omega
   |succ k ih=>
    intro a ha h2
    obtain⟨_,r,b1,b2,b3,b4⟩:=hrk a h2
    rw[<-b2]
    refine su (set:=can) (fun r hrm=>by have:=(hrn r hrm).2;omega) r b1 (fun l hl=>⟨fun hneg=>?_,fun hneg=>?_⟩)
    ·have:=(jK hdom).1 (f6.1 b3 l hl)
     rw[hneg] at this
     have:v l.atom.toNat=1:=this
     show can.getD _ false=false
     rw[hcan _ (hlit r b1 l hl),this]
     rfl
    ·have:=(jK hdom).1 (f6.1 b3 l hl)
     rw[hneg] at this
     have:v l.atom.toNat=2:=this
     exact ih _ (by have:=b4 l hl hneg;omega) this
  exact key _ j (Nat.lt_succ_self _)
section
variable {R:Res}
end
def okS (p:Prg)(v:Nat->Int)(s:Step):Bool:=if s.rule = -1 then wH p v s else dS p v s
def newS (p:Prg)(v:Nat->Int)(s:Step):Nat->Int:=if s.rule = -1 then cA v (bP s.atoms.l) else fQ p v s
end Go.Avm.Pack
namespace Go.Avm.Pack
open Go Go.Avm Go.Proofs
open Go.IntKind (i64 u64)
open Go.Avm.AV (int bool any fz fp sl ow ref fn ifc val agg tup)
open Go.Avm.AObj (cells dead)
open Go.Avm.Oc (ret)
set_option maxRecDepth 4000
def sA (p:Prg):List Step->(Nat->Int)->Nat->Int
 |[],_,_=> -1
 |s::l,v,i=>if okS p v s then sA p l (newS p v s) (i+1) else i
def zB (p:Prg)(v:Nat->Int)(l:List Step):Nat->Int:=l.foldl (newS p) v
section
variable {p:Prg}{n:Nat}{v:List Int}{f:Nat->Int}
end
end Go.Avm.Pack
namespace Go.Avm.Pack
open Go Go.Avm Go.Proofs
open Go.IntKind (i64 u64)
open Go.Avm.AV (int bool any fz fp sl ow ref fn ifc val agg tup)
open Go.Avm.AObj (cells dead)
open Go.Avm.Oc (ret)
set_option maxRecDepth 4000
theorem zC (R:Res)(a b:KL Int)(hp:List AObj)(g:R.σ)(ha:a.l.length<1000000):Does Tryd.prog R 42 [aj a,aj b] hp g (.ret (.bool (decide (a.l=b.l)))) hp g:=by
 refine bG (fun R g=>?_) (by exact⟨trivial,trivial,trivial⟩) R hp g
 refine spW (nt:=26) (rs:=[.tmp 4]) (k0:=0) ?_
 refine vcR [] (lkL [(0,[0,1]),(1,[0,1,10]),(2,[4]),(3,[0,1,12,13])]) (fun _=>[]) (fun Q=>(fun (u1:Bool)=>(u1=true->Q AEx.ret (St.mk [(4,AV.bool false)] [] g))/\(u1=false->WpC Tryd.prog R 26 0 42 [1,1,0,1,0] Q [Kont.blk 0,Kont.seq [1,1,1]] (St.mk [(0,aj a),(1,aj b),(12,i6 (↑(List.length a.l):Int)),(13,i6 0)] [] g))) ((↑(List.length a.l):Int) != (↑(List.length b.l):Int))) ⟨fun c1=>have c1:¬(↑(List.length a.l):Int)=(↑(List.length b.l):Int):=(bne_iff_ne.mp c1);?_,fun c1=>have c1:(↑(List.length a.l):Int)=(↑(List.length b.l):Int):=(bne_eq_false_iff_eq.mp c1);?_⟩
 ·have hne:a.l≠b.l:=fun e=>by
   rw[e] at c1
   omega
  rw[decide_eq_false hne]
  refine(aq (aR _ _ rfl trivial rfl rfl rfl) (Af _))
 ·have hle:a.l.length=b.l.length:=by omega
  refine(a8 krf (fun (i:Nat)=>⟨[(0,aj a),(1,aj b),(12,i6 (a.l.length:Int)),(13,.int .i64 i)],[],g⟩) (fun (i:Nat)=>(i<=a.l.length/\∀j,j<i->a.l.getD j 0=b.l.getD j 0)) (fun (i:Nat)=>(a.l.length-i)) 0 (aO ⟨Af _,Af _,Af _,(Ag krf),trivial⟩ rfl rfl) ?_ (fun i hi=>?_))
  ·exact⟨Nat.zero_le _,fun j hj=>absurd hj (Nat.not_lt_zero _)⟩
  ·obtain⟨h1,h2⟩:=hi
   refine vcR [] (lkL [(4,[0,1,12,13,14]),(5,[0,1,5,12,13]),(6,[0,1,12,13,24]),(7,[4]),(8,[0,1,12,13])]) (fun _=>[]) (fun Q=>(fun (u1:Int)=>(fun (u2:Int)=>(decide (u2<u1)=true->Flw Tryd.prog/\(0<=u2/\u2<u1)/\1<=1/\(0<=u2/\u2<(↑(List.length b.l):Int))/\1<=1/\((List.getD a.l i 0 != List.getD b.l i 0)=true->Q AEx.ret (St.mk [(4,AV.bool false)] [] g))/\((List.getD a.l i 0 != List.getD b.l i 0)=false->(-9223372036854775808<=u2+1/\u2+1<=9223372036854775807)/\Q AEx.normal (St.mk [(0,aj a),(1,aj b),(12,i6 u1),(13,i6 (u2+1))] [] g)))/\(decide (u2<u1)=false->Q (AEx.exit 0) (St.mk [(0,aj a),(1,aj b),(12,i6 u1),(13,i6 u2),(14,AV.bool (decide (u2<u1)))] [] g))) ((↑i:Int))) ((↑(List.length a.l):Int))) ⟨fun c1=>have c1:(↑i:Int)<(↑(List.length a.l):Int):=(of_decide_eq_true c1);⟨krf,omg,omg,omg,omg,fun c2=>have c2:¬List.getD a.l i 0=List.getD b.l i 0:=(bne_iff_ne.mp c2);?_,fun c2=>have c2:List.getD a.l i 0=List.getD b.l i 0:=(bne_eq_false_iff_eq.mp c2);⟨omg,?_⟩⟩,fun c1=>have c1:¬(↑i:Int)<(↑(List.length a.l):Int):=(of_decide_eq_false c1);?_⟩
   ·have hne:a.l≠b.l:=fun e=>by
     rw[e] at c2
     exact c2 rfl
    rw[decide_eq_false hne]
    refine⟨_,Ar _,(aq (aR _ _ rfl trivial rfl rfl rfl) (Af _))⟩
   ·refine(aQ (i+1) (aO ⟨Af _,Af _,Af _,(Ag krf),trivial⟩ rfl rfl) ?_ ?_)
    ·refine⟨omg,fun j hj=>?_⟩
     rcases Nat.lt_or_ge j i with h|h
     ·exact h2 j h
     ·have:j=i:=by omega
      subst this
      exact c2
    ·omega
   ·have hie:i=a.l.length:=by omega
    subst hie
    have he:a.l=b.l:=kQ 0 hle (fun j hj=>h2 j hj)
    rw[decide_eq_true he]
    refine⟨_,Ar _,vcR [] (lkL [(9,[4])]) (fun _=>[]) (fun (Q:AEx->St R.σ->Prop)=>Q AEx.ret (St.mk [(4,AV.bool true)] [] g)) (?_)⟩
    refine(aq (aR _ _ rfl trivial rfl rfl rfl) (Af _))
theorem zD (R:Res)(l:KL Int)(u:Value)(q:Int->Bool)(g:R.σ)(hl:l.l.length<1000000)
  (hu:∀r,r∈l.l->∀hp,VDoes Tryd.prog R u [.int .i64 r] hp g (.ret (.bool (q r))) hp g) :
  Does Tryd.prog R 108 [aj l,.val u] [] g (.ret (.int .i64 (aE q l.l 0))) [] g:=by
 refine spW (nt:=19) (rs:=[.tmp 4]) (k0:=0) ?_
 refine vcR [] (lkL [(0,[0,1]),(1,[0,1,7,8])]) (fun _=>[]) (fun (Q:AEx->St R.σ->Prop)=>WpC Tryd.prog R 19 0 108 [1,0,1,0] Q [Kont.blk 0,Kont.seq [1,1]] (St.mk [(0,aj l),(1,val u),(7,i6 (↑(List.length l.l):Int)),(8,i6 0)] [] g)) (?_)
 refine(a8 krf (fun (i:Nat)=>⟨[(0,aj l),(1,val u),(7,i6 (l.l.length:Int)),(8,.int .i64 (i:Int))],[],g⟩) (fun (i:Nat)=>(i<=l.l.length/\aE q l.l 0=aE q (l.l.drop i) i)) (fun (i:Nat)=>(l.l.length-i)) 0 (aO ⟨Af _,Af _,Af _,(Ag krf),trivial⟩ rfl rfl) ?_ (fun i hi=>?_))
 ·exact⟨Nat.zero_le _,rfl⟩
 ·obtain⟨h1,h2⟩:=hi
  refine vcR [] (lkL [(2,[0,1,7,8,9]),(3,[0,1,5,7,8]),(4,[0,1,5,7,8,16]),(5,[4]),(6,[0,1,7,8])]) (lkL [(4,[(5,ROrc.kcall (AV.bool (q (List.getD l.l i 0))))])]) (fun Q=>(fun (u1:Int)=>(fun (u2:Int)=>(decide (u2<u1)=true->(0<=u2/\u2<u1)/\1<=1/\VDoes Tryd.prog R u [i6 (List.getD l.l i 0)] [] g (ret (AV.bool (q (List.getD l.l i 0)))) [] g/\(q (List.getD l.l i 0)=true->Q AEx.ret (St.mk [(4,i6 u2)] [] g))/\(q (List.getD l.l i 0)=false->(-9223372036854775808<=u2+1/\u2+1<=9223372036854775807)/\Q AEx.normal (St.mk [(0,aj l),(1,val u),(7,i6 u1),(8,i6 (u2+1))] [] g)))/\(decide (u2<u1)=false->Q (AEx.exit 0) (St.mk [(0,aj l),(1,val u),(7,i6 u1),(8,i6 u2),(9,AV.bool (decide (u2<u1)))] [] g))) ((↑i:Int))) ((↑(List.length l.l):Int))) ⟨fun c1=>have c1:(↑i:Int)<(↑(List.length l.l):Int):=(of_decide_eq_true c1);⟨omg,omg,(hu _ ?_ _),fun c2=>?_,fun c2=>⟨omg,?_⟩⟩,fun c1=>have c1:¬(↑i:Int)<(↑(List.length l.l):Int):=(of_decide_eq_false c1);?_⟩
  ·exact bO l.l 0 omg
  ·refine⟨_,Ar _,(aq (aR _ _ rfl trivial rfl rfl rfl) (Ag ?_))⟩
   show(i6 (↑i:Int))=_
   show AV.int _ _=AV.int _ _
   rw[h2,fl l.l 0 omg];unfold aE;rw[if_pos c2]
  ·refine(aQ (i+1) (aO ⟨Af _,Af _,Af _,(Ag krf),trivial⟩ rfl rfl) ?_ ?_)
   ·refine⟨omg,?_⟩
    rw[h2,fl l.l 0 omg];conv=>lhs;unfold aE
    rw[c2];rfl
   ·omega
  ·refine⟨_,Ar _,vcR [] (lkL [(7,[4])]) (fun _=>[]) (fun (Q:AEx->St R.σ->Prop)=>Q AEx.ret (St.mk [(4,i6 (-1))] [] g)) (?_)⟩
   refine(aq (aR _ _ rfl trivial rfl rfl rfl) (Ag ?_))
   show(i6 (-1))=_
   show AV.int _ _=AV.int _ _
   rw[h2,List.drop_eq_nil_of_le omg];rfl
theorem zE (R:Res)(l:KL Int)(u:Value)(q:Int->Bool)(g:R.σ)(hl:l.l.length<1000000)
  (hu:∀r,r∈l.l->∀hp,VDoes Tryd.prog R u [.int .i64 r] hp g (.ret (.bool (q r))) hp g) :
  Does Tryd.prog R 86 [aj l,.val u] [] g (.ret (.bool (l.l.any q))) [] g:=by
 refine spW (nt:=9) (rs:=[.tmp 4]) (k0:=0) ?_
 refine vcR [] (lkL [(0,[0,1]),(1,[4])]) (lkL [(1,[(2,ROrc.kcall (i6 (aE q l.l 0)))])]) (fun Q=>(true=true/\Does Tryd.prog R 108 [aj l,val u] [] g (ret (i6 (aE q l.l 0))) [] g)/\Q AEx.ret (St.mk [(4,AV.bool (decide (aE q l.l 0 >= 0)))] [] g)) ⟨⟨rfl,(zD _ _ _ _ _ omg (fun _ _ _=>hu _ omg _))⟩,?_⟩
 refine(aq (aR _ _ rfl trivial rfl rfl rfl) (Ag ?_))
 show(AV.bool (decide (aE q l.l 0 >= 0)))=_
 show AV.bool _=AV.bool _
 rw[kP]
theorem zF (R:Res)(l:KL Int)(f na nb:Nat)(a b:Nat->AV)(q:Int->Bool)(hp:List AObj)(g:R.σ)(hl:l.l.length<1000000)(hpl:bZ Tryd.prog f=true)
  (h:∀r,r∈l.l->Does Tryd.prog R f (tab na 0 a++[.int .i64 r]++tab nb 0 b) hp g (.ret (.bool (q r))) hp g) :
  Does Tryd.prog R 86 [aj l,.fn f na a nb b] hp g (.ret (.bool (l.l.any q))) hp g:=
 jg (pre:=[aj l]) (D:=fun r=>r∈l.l) (args:=fun r=>[.int .i64 r]) (oc1:=fun r=>.ret (.bool (q r))) ⟨trivial,trivial⟩ hpl (fun r=>⟨trivial,trivial⟩) (fun _=>trivial) h
  (fun R' g' u hu=>zE R' l u q g' hl hu)
def og (x:Int):Bool:=bif decide (x<1) then true else decide (x > 3)
theorem zG (R:Res)(x:Int)(hp:List AObj)(g:R.σ):Does Tryd.prog R 87 [.int .i64 x] hp g (.ret (.bool (og x))) hp g:=by
 refine bG (fun R g=>?_) (by exact⟨trivial,trivial⟩) R hp g
 refine spW (nt:=9) (rs:=[.tmp 2]) (k0:=0) ?_
 refine vcR [] (lkL [(0,[0]),(1,[2])]) (fun _=>[]) (fun (Q:AEx->St R.σ->Prop)=>Q AEx.ret (St.mk [(2,AV.bool (bif decide (x<1) then true else decide (x > 3)))] [] g)) (?_)
 refine(aq (aR _ _ rfl trivial rfl rfl rfl) (Ag krf))
theorem zH (R:Res)(p:Prg)(v:KL Int)(hl:(v.l.length:Int)=p.atoms/\p.atoms<1000000)(hv:∀x,x∈v.l->1<=x/\x<=3)(hp:List AObj)(g:R.σ):Does Tryd.prog R 36 [av p,aj v] hp g (.ret (.bool true)) hp g:=by
 refine bG (fun R g=>?_) (by exact⟨⟨⟨trivial,trivial⟩,trivial⟩,trivial,trivial⟩) R hp g
 have hany:v.l.any og=false:=by
  rw[List.any_eq_false]
  intro x hx
  have:=hv x hx
  unfold og
  rw[decide_eq_false omg,decide_eq_false omg]
  decide
 refine spW (nt:=15) (rs:=[.tmp 4]) (k0:=0) ?_
 refine vcR [] (lkL [(0,[1,2]),(1,[4])]) (lkL [(1,[(7,ROrc.kcall (AV.bool false))])]) (fun Q=>(fun (u1:AObj)=>1<=2/\(((v.l.length:Int)==p.atoms)=true->true=true/\Does Tryd.prog R 86 [aj v,fn 87 0 (fun (x:Nat)=>any) 0 fun x=>any] [u1] g (ret (AV.bool false)) [u1] g)/\Q AEx.ret (St.mk [(4,AV.bool (bif (v.l.length:Int)==p.atoms then true else false))] [u1] g)) (cO 2 (nth [i6 p.atoms,ae p.rules]))) ⟨omg,(fun hgd=>⟨rfl,(ku hany (zF _ _ _ _ _ _ _ _ _ _ omg krf (fun r _=>(zG _ _ _ _))))⟩),?_⟩
 refine(aq (bA _ _ rfl trivial trivial rfl) (Ag ?_))
 show(AV.bool (bif (↑(List.length v.l):Int)==p.atoms then true else false))=_
 rw[hl.1,beq_self_eq_true]
 rfl
def zI (s:Stp):Int:=if s.rule = -1 then 1 else 2
def zJ (w:Nat->Int)(x:Int)(l:List Int):Nat->Int:=fun j=>if (j:Int)∈l then x else w j
structure StpFit (p:Prg)(w:Nat->Int)(s:Stp):Prop where
 can:okS p w (fW s)=true
 new:newS p w (fW s)=bE w s
 at_:∀a,a∈s.atoms->0<=a/\a<p.atoms/\w a.toNat=3
 inj:∀i j,i<j->j<s.atoms.length->s.atoms.getD i 0≠s.atoms.getD j 0
 upd:bE w s=zJ w (zI s) s.atoms
def dI (b:Nat->Bool):Nat->AV:=fun j=>.bool (b j)
theorem zK {k:Nat}(b:Nat->Bool)(j:Nat):Below k (dI b j):=trivial
theorem sB {b b':Nat->Bool}{a:Nat}{x:Bool}(hb:∀j,b' j=if j=a then x else b j){c:Nat}:am (dI b) a 1 (fun _=>.bool x) c=dI b' c:=by
 rw[dP]
 unfold dI
 rw[hb]
 by_cases h:c=a
 ·rw[if_pos omg,if_pos h]
 ·rw[if_neg omg,if_neg h]
theorem sC {hp:List AObj}{k m o n:Nat}{l:List Bool}{w:Nat->Bool}(hn:l.length=n)(hw:∀j,j<n->l.getD j false=w j)(ho:ag hp o=cO (n*1) (dI w))(hk:k<=o):ar hp k m (.ow true o n 1) (bY l):=by
 subst hn
 exact(ar.ow ho hk (Nat.le_refl _) dcd (fun j _=>Am (zK _ _))).le (Al rfl (fun i j hi hj=>by
  show AV.bool (w (i*1+j))=AV.bool (l.getD i false)
  rw[show i*1+j=i by omega,hw i hi]))
def sound (w v:Nat->Int):Prop:=∀a,w a≠3->w a=v a
def aI (x:KL Int):AV:=.fz x.k 1 x.l.length (fun i _=>.int .u32 (x.l.getD i 0))
def QU (x:KL Int):Prop:=∀a,a∈x.l->0<=a/\a<4294967296
structure AnyOk (p:Prg)(n i:Nat)(v:Nat->Int)(x:List Stp × (Nat->Int)):Prop where
 wr:sA p (x.1.map fW) (fun _=>3) 0 = -1
 run:zB p (fun _=>3) (x.1.map fW)=x.2
 snd:sound x.2 v
 len:x.1.length<=i
 at24:∀s,s∈x.1->s.atoms.length<=24
def btw (r:List Int)(s x:Nat):Prop:=∀j,(s.testBit j=true->x.testBit j=true)/\(x.testBit j=true->s.testBit j=true∨(j:Int)∈r)
def bef (x y:Nat):Prop:=∃a,x.testBit a=false/\y.testBit a=true/\∀j,j<a->x.testBit j=y.testBit j
theorem sD {a:Int}{r:List Int}{s x:Nat}(h:btw r s x):btw (a::r) s x:=fun j=>⟨(h j).1,fun hx=>((h j).2 hx).imp id (List.mem_cons_of_mem _)⟩
theorem sE {a:Int}(ha:0<=a){r:List Int}{s x:Nat}(h:btw r (s|||2^a.toNat) x):btw (a::r) s x:=fun j=>by
 have h1:=h j
 rw[dy] at h1
 refine⟨fun hs=>h1.1 (by rw[hs];rfl),fun hx=>?_⟩
 rcases h1.2 hx with e|e
 ·rw[Bool.or_eq_true,decide_eq_true_eq] at e
  rcases e with e|e
  ·exact .inl e
  ·exact .inr (List.mem_cons.2 (.inl omg))
 ·exact .inr (List.mem_cons_of_mem _ e)
theorem jL {p:Prg}{most:Nat}{x:Nat}:∀{r:List Int} {s:Nat} {out:List Nat},(∀a,a∈r->0<=a)->x∈stF p most r s out->x∈out∨(fol p.rules.l x=x/\btw r s x)
 |[],s,out,_,h=>by
  have h:x∈(if out.length=most then out else if fol p.rules.l s=s then out++[s] else out):=h
  split at h
  ·exact .inl h
  ·split at h
   ·rename_i hf
    rcases List.mem_append.1 h with h|h
    ·exact .inl h
    ·rw[List.mem_singleton.1 h]
     exact .inr ⟨hf,fun j=>⟨id,.inl⟩⟩
   ·exact .inl h
 |a::r,s,out,h0,h=>by
  have hr:∀a,a∈r->0<=a:=fun b hb=>h0 b (List.mem_cons_of_mem _ hb)
  have h:x∈(if out.length=most then out else stF p most r (s|||2^a.toNat) (stF p most r s out)):=h
  split at h
  ·exact .inl h
  ·rcases jL hr h with h|⟨h1,h2⟩
   ·rcases jL hr h with h|⟨h1,h2⟩
    ·exact .inl h
    ·exact .inr ⟨h1,sD h2⟩
   ·exact .inr ⟨h1,sE (h0 a List.mem_cons_self) h2⟩
theorem oh {p:Prg}{most:Nat}{x:Nat}:∀{r:List Int} {s:Nat} {out:List Nat},x∈out->x∈stF p most r s out
 |[],s,out,h=>by
  show x∈(if out.length=most then out else if fol p.rules.l s=s then out++[s] else out)
  split
  ·exact h
  ·split
   ·exact List.mem_append.2 (.inl h)
   ·exact h
 |a::r,s,out,h=>by
  show x∈(if out.length=most then out else stF p most r (s|||2^a.toNat) (stF p most r s out))
  split
  ·exact h
  ·exact oh (oh h)
theorem oi {p:Prg}{most:Nat}{x:Nat}(hx:fol p.rules.l x=x):∀{r:List Int} {s:Nat} {out:List Nat},(∀a,a∈r->0<=a)->out.length<=most->btw r s x->x∈stF p most r s out∨(stF p most r s out).length=most
 |[],s,out,_,_,h=>by
  have e:x=s:=Nat.eq_of_testBit_eq fun j=>by
   rw[Bool.eq_iff_iff]
   exact⟨fun hx=>((h j).2 hx).elim id (fun h=>by cases h),(h j).1⟩
  subst e
  show x∈(if out.length=most then out else if fol p.rules.l x=x then out++[x] else out)∨(if out.length=most then out else if fol p.rules.l x=x then out++[x] else out).length=most
  by_cases ho:out.length=most
  ·rw[if_pos ho]
   exact .inr ho
  ·rw[if_neg ho,if_pos hx]
   exact .inl (List.mem_append.2 (.inr (List.mem_singleton.2 rfl)))
 |a::r,s,out,h0,hl,h=>by
  have hr:∀a,a∈r->0<=a:=fun b hb=>h0 b (List.mem_cons_of_mem _ hb)
  have ha:=h0 a List.mem_cons_self
  show x∈(if out.length=most then out else stF p most r (s|||2^a.toNat) (stF p most r s out))∨(if out.length=most then out else stF p most r (s|||2^a.toNat) (stF p most r s out)).length=most
  by_cases ho:out.length=most
  ·rw[if_pos ho]
   exact .inr ho
  ·rw[if_neg ho]
   have hL:=dV (p:=p) (most:=most) (r:=r) (s:=s) (out:=out) hl
   by_cases hxa:x.testBit a.toNat=true
   ·refine oi hx hr hL.2.1 (fun j=>?_)
    rw[dy,Bool.or_eq_true,decide_eq_true_eq]
    refine⟨fun hs=>hs.elim (h j).1 (fun e=>e▸hxa),fun hj=>?_⟩
    rcases(h j).2 hj with e|e
    ·exact .inl (.inl e)
    ·rcases List.mem_cons.1 e with e|e
     ·exact .inl (.inr omg)
     ·exact .inr e
   ·rcases oi hx hr hl (s:=s) (out:=out) (fun j=>⟨(h j).1,fun hj=>by
     rcases(h j).2 hj with e|e
     ·exact .inl e
     ·rcases List.mem_cons.1 e with e|e
      ·exact absurd (by rw[show a.toNat=j by omega];exact hj) hxa
      ·exact .inr e⟩) with h1|h1
    ·exact .inl (oh h1)
    ·rw[yV h1]
     exact .inr h1
theorem ol {p:Prg}{most:Nat}:∀{r:List Int} {s:Nat} {out:List Nat},(∀a,a∈r->0<=a/\s.testBit a.toNat=false)->r.Pairwise (·<·)->out.Pairwise bef->(∀y,y∈out->∀x,btw r s x->bef y x)->(stF p most r s out).Pairwise bef
 |[],s,out,_,_,h,hb=>by
  show(if out.length=most then out else if fol p.rules.l s=s then out++[s] else out).Pairwise bef
  split
  ·exact h
  ·split
   ·refine List.pairwise_append.2 ⟨h,List.pairwise_singleton _ _,fun y hy x hx=>?_⟩
    rw[List.mem_singleton.1 hx]
    exact hb y hy s (fun j=>⟨id,.inl⟩)
   ·exact h
 |a::r,s,out,h0,hp,h,hb=>by
  show(if out.length=most then out else stF p most r (s|||2^a.toNat) (stF p most r s out)).Pairwise bef
  obtain⟨hp1,hp2⟩:=List.pairwise_cons.1 hp
  obtain⟨ha,hsa⟩:=h0 a List.mem_cons_self
  have h1:∀b,b∈r->0<=b/\s.testBit b.toNat=false:=fun b hb=>h0 b (List.mem_cons_of_mem _ hb)
  split
  ·exact h
  ·refine ol (fun b hb=>⟨(h1 b hb).1,?_⟩) hp2 (ol h1 hp2 h (fun y hy x hx=>hb y hy x (sD hx))) (fun y hy x hx=>?_)
   ·rw[dy,(h1 b hb).2,Bool.false_or,decide_eq_false_iff_not]
    have:=hp1 b hb
    have:=(h1 b hb).1
    omega
   ·rcases jL (fun b hb=>(h1 b hb).1) hy with hy|⟨_,hy⟩
    ·exact hb y hy x (sE ha hx)
    ·refine⟨a.toNat,?_,(hx a.toNat).1 (by rw[dy,decide_eq_true rfl,Bool.or_true]),fun j hj=>?_⟩
     ·cases e:y.testBit a.toNat with
      |false=>rfl
      |true=>
       rcases(hy a.toNat).2 e with h|h
       ·rw[hsa] at h;cases h
       ·have:=hp1 _ h
        omega
     ·have no:∀b:Int,b∈r->(j:Int)≠b:=fun b hb e=>by
       have:=hp1 b hb
       omega
      rw[Bool.eq_iff_iff]
      constructor
      ·intro e
       rcases(hy j).2 e with h|h
       ·exact(hx j).1 (by rw[dy,h];rfl)
       ·exact absurd rfl (no _ h)
      ·intro e
       rcases(hx j).2 e with h|h
       ·rw[dy,Bool.or_eq_true,decide_eq_true_eq] at h
        rcases h with h|h
        ·exact(hy j).1 h
        ·omega
       ·exact absurd rfl (no _ h)
theorem sF (s:Nat):(aB s).Pairwise (·<·):=by
 rw[List.pairwise_iff_getElem]
 intro i j hi hj hij
 have e1:(aB s)[i]=(aB s).getD i 0:=by rw[List.getD_eq_getElem?_getD,List.getElem?_eq_getElem hi];rfl
 have e2:(aB s)[j]=(aB s).getD j 0:=by rw[List.getD_eq_getElem?_getD,List.getElem?_eq_getElem hj];rfl
 rw[e1,e2,gE,gE]
 rw[eS] at hj
 have:=rf hij hj
 omega
structure StOk (p:Prg)(v:Nat->Int)(n most:Nat)(L:List Nat):Prop where
 fix:∀x,x∈L->fol p.rules.l x=x
 bit:∀x,x∈L->∀j,(x.testBit j=true->j<n)/\(j<n->v j=2->x.testBit j=true)/\(v j=1->x.testBit j=false)
 ord:L.Pairwise bef
 all:∀x,fol p.rules.l x=x->(∀j,(x.testBit j=true->j<n)/\(j<n->v j=2->x.testBit j=true)/\(v j=1->x.testBit j=false))->x∈L∨L.length=most
 len:L.length<=most
theorem zL {p:Prg}{v:Nat->Int}{n most:Nat}(hv:(ai p).2=v)(hn:p.atoms.toNat=n)(hd:∀a,v a=1∨v a=2∨v a=3)(h24:n<=24):StOk p v n most (stP p most):=by
 have hT:∀j,(cg p).testBit j=(decide (j<n)&&decide (v j=2)):=fun j=>by
  unfold cg
  rw[hv,hn,ew]
 have hO:∀j,(cb p).testBit j=(decide (j<n)&&decide (v j=3)):=fun j=>by
  unfold cb
  rw[hv,hn,ew]
 have hm:∀a,a∈aB (cb p)->0<=a:=fun a ha=>(lB a ha).1
 have hb:∀x,btw (aB (cb p)) (cg p) x↔∀j,(x.testBit j=true->j<n)/\(j<n->v j=2->x.testBit j=true)/\(v j=1->x.testBit j=false):=fun x=>by
  constructor
  ·intro h j
   have h1:=h j
   rw[hT,Bool.and_eq_true,decide_eq_true_eq,decide_eq_true_eq,gM,hO,Bool.and_eq_true,decide_eq_true_eq,decide_eq_true_eq] at h1
   refine⟨fun hx=>?_,fun a b=>h1.1 ⟨a,b⟩,fun e=>?_⟩
   ·rcases h1.2 hx with h|h
    ·exact h.1
    ·exact h.2.1
   ·cases hx:x.testBit j with
    |false=>rfl
    |true=>
     rcases h1.2 hx with h|h
     ·omega
     ·omega
  ·intro h j
   obtain⟨h1,h2,h3⟩:=h j
   rw[hT,Bool.and_eq_true,decide_eq_true_eq,decide_eq_true_eq,gM,hO,Bool.and_eq_true,decide_eq_true_eq,decide_eq_true_eq]
   refine⟨fun e=>h2 e.1 e.2,fun e=>?_⟩
   have hj:=h1 e
   rcases hd j with e1|e1|e1
   ·rw[h3 e1] at e;cases e
   ·exact .inl ⟨hj,e1⟩
   ·exact .inr ⟨omg,hj,e1⟩
 refine⟨fun x hx=>?_,fun x hx=>?_,?_,fun x h1 h2=>?_,(dV (Nat.zero_le _)).2.1⟩
 ·rcases jL hm hx with h|h
  ·cases h
  ·exact h.1
 ·rcases jL hm hx with h|h
  ·cases h
  ·exact(hb x).1 h.2
 ·refine ol (fun a ha=>⟨hm a ha,?_⟩) (sF _) .nil (fun y hy=>by cases hy)
  have h:=lB a ha
  rw[hO,Bool.and_eq_true,decide_eq_true_eq,decide_eq_true_eq] at h
  rw[hT,show decide (v a.toNat=2)=false from decide_eq_false omg,Bool.and_false]
 ·exact oi h1 hm (Nat.zero_le _) ((hb x).2 h2)
theorem zM {p:Prg}{v:Nat->Int}{n most:Nat}(hf:Fin2 p v)(hv:(ai p).2=v)(hn:p.atoms.toNat=n)(h24:n<=24)(hr:∀r,r∈p.rules.l->aP r)(hrn:∀r,r∈p.rules.l->jD n r)(hm:0<most)(h0:∀j,j<n->v j≠3):(stP p most).length=1:=by
 have hO:aB (cb p)=[]:=by
  rw[List.eq_nil_iff_forall_not_mem]
  intro a ha
  have h:=lB a ha
  unfold cb at h
  rw[hv,hn,ew,Bool.and_eq_true,decide_eq_true_eq,decide_eq_true_eq] at h
  exact h0 _ h.2.2.1 h.2.2.2
 have hT:∀j,(cg p).testBit j=(decide (j<n)&&decide (v j=2)):=fun j=>by
  unfold cg
  rw[hv,hn,ew]
 have hs:∀j,(cg p).testBit j=true->j<n:=fun j h=>by
  rw[hT,Bool.and_eq_true,decide_eq_true_eq] at h
  exact h.1
 have hc:∀j,j<n->(ay n (cg p)).getD j false=(v j != 1):=fun j hj=>by
  rw[fZ hs,hT,decide_eq_true hj,Bool.true_and]
  have:=h0 j hj
  rcases hf.dom j with e|e|e
  ·rw[e];rfl
  ·rw[e];rfl
  ·omega
 have hF:=zA hf hn hrn hc
 have hfol:fol p.rules.l (cg p)=cg p:=by
  have h:=oa (p:=p) (n:=n) (s:=cg p) h24 hr (fun r h=>by have:=(hrn r h).2;omega) hs
  have hd:eU (foR p (ay n (cg p)) n) (ay n (cg p)) n=false:=by
   unfold eU
   rw[List.any_eq_false]
   intro j hj
   have hj:=List.mem_range.1 hj
   have h1:=hF j
   rw[fZ hs,hT,decide_eq_true hj,Bool.true_and]
   cases h2:(foR p (ay n (cg p)) n).getD j false with
   |false=>
    rw[h2] at h1
    rw[decide_eq_false (fun e=>by have:=h1.2 e;cases this)]
    simp
   |true=>rw[decide_eq_true (h1.1 h2)];simp
  rw[hd] at h
  exact of_decide_eq_true h.symm
 unfold stP
 rw[hO]
 show(if ([]:List Nat).length=most then[] else if fol p.rules.l (cg p)=cg p then[]++[cg p] else[]).length=1
 rw[if_neg (by simp;omega),if_pos hfol]
 rfl
theorem zN (R:Res)(a b:List Bool)(n k:Nat)(ha:a.length=n)(hb:b.length=n)(hn:n<1000000)(hk:k<n)(h0:a.getD k false=false)(h1:b.getD k false=true)(hlt:∀j,j<k->a.getD j false=b.getD j false)(g:R.σ):Does Tryd.prog R 39 [bY a,bY b] [] g (.ret (.bool true)) [] g:=by
 refine spW (nt:=25) (rs:=[.tmp 4]) (k0:=0) ?_
 refine vcR [] (lkL [(0,[0,1]),(1,[0,1,7,8])]) (fun _=>[]) (fun (Q:AEx->St R.σ->Prop)=>WpC Tryd.prog R 25 0 39 [1,0,1,0] Q [Kont.blk 0,Kont.seq [1,1]] (St.mk [(0,fz Fz.auto 1 (List.length a) fun (i x:Nat)=>aC a i),(1,fz Fz.auto 1 (List.length b) fun (i x:Nat)=>aC b i),(7,i6 (↑(List.length a):Int)),(8,i6 0)] [] g)) (?_)
 refine(a8 krf (fun (i:Nat)=>⟨[(0,fz Fz.auto 1 (a.length) fun (i x:Nat)=>aC a i),(1,fz Fz.auto 1 (b.length) fun (i x:Nat)=>aC b i),(7,i6 (a.length:Int)),(8,.int .i64 i)],[],g⟩) (fun (i:Nat)=>(i<=k)) (fun (i:Nat)=>(n-i)) 0 (aO ⟨Af _,Af _,Af _,(Ag krf),trivial⟩ rfl rfl) ?_ (fun i hi=>?_))
 ·exact Nat.zero_le _
 ·refine vcR [] (lkL [(2,[0,1,7,8,9]),(3,[0,1,5,7,8]),(4,[0,1,5,7,8,19]),(5,[4]),(6,[0,1,7,8])]) (fun _=>[]) (fun Q=>(fun (u1:Int)=>(fun (u2:Int)=>(fun (u3:AV)=>(fun (u4:AV)=>(decide (u2<u1)=true->Flw Tryd.prog/\(0<=u2/\u2<u1)/\1<=1/\(0<=u2/\u2<(↑(List.length b):Int))/\1<=1/\((!List.getD a i false==List.getD b i false)=true->(0<=u2/\u2<(↑(List.length b):Int))/\1<=1/\Q AEx.ret (St.mk [(4,aC b i)] [] g))/\((!List.getD a i false==List.getD b i false)=false->(-9223372036854775808<=u2+1/\u2+1<=9223372036854775807)/\Q AEx.normal (St.mk [(0,u4),(1,u3),(7,i6 u1),(8,i6 (u2+1))] [] g)))/\(decide (u2<u1)=false->Q (AEx.exit 0) (St.mk [(0,u4),(1,u3),(7,i6 u1),(8,i6 u2),(9,AV.bool (decide (u2<u1)))] [] g))) (fz Fz.auto 1 (List.length a) fun i x=>aC a i)) (fz Fz.auto 1 (List.length b) fun i x=>aC b i)) ((↑i:Int))) ((↑(List.length a):Int))) ⟨fun c1=>have c1:(↑i:Int)<(↑(List.length a):Int):=(of_decide_eq_true c1);⟨krf,omg,omg,omg,omg,fun c2=>have c2:(List.getD a i false==List.getD b i false)=false:=((Bool.not_eq_true' _).mp c2);⟨omg,omg,?_⟩,fun c2=>have c2:(List.getD a i false==List.getD b i false)=true:=((Bool.not_eq_false' _).mp c2);⟨omg,?_⟩⟩,fun c1=>have c1:¬(↑i:Int)<(↑(List.length a):Int):=(of_decide_eq_false c1);?_⟩
  ·have e:i=k:=by
    rcases Nat.lt_or_ge i k with h|h
    ·exact absurd (hlt i h) (by simpa using c2)
    ·omega
   subst e
   refine⟨_,Ar _,(aq (aR _ _ rfl trivial rfl rfl rfl) (Ag ?_))⟩
   show(aC b i)=_
   show AV.bool (b.getD i false)=AV.bool true
   rw[h1]
  ·refine(aQ (i+1) (aO ⟨Af _,Af _,Af _,(Ag krf),trivial⟩ rfl rfl) ?_ ?_)
   ·rcases Nat.lt_or_ge i k with h|h
    ·omega
    ·have e:i=k:=by omega
     subst e
     rw[h0,h1] at c2
     simp at c2
   ·omega
  ·exfalso;omega
theorem zO (R:Res)(x y:KL Int)(hx:x.l.length<1000000)(g:R.σ):Does Tryd.prog R 41 [aj x,.ref 0 0] [cO 1 (fun _=>aj y)] g (.ret (.bool (decide (x.l=y.l)))) [cO 1 (fun _=>aj y)] g:=by
 refine spW (nt:=7) (rs:=[.tmp 3]) (k0:=1) ?_
 refine vcR [] (lkL [(0,[0,1]),(1,[3])]) (lkL [(1,[(2,ROrc.pcall (AV.bool (decide (x.l=y.l))))])]) (fun Q=>(fun (u1:AV)=>1<=1/\(∀(hp:List AObj) (g:R.σ),true=true/\Does Tryd.prog R 42 [fz x.2 1 (List.length x.l) fun i x_1=>ac x.l i,u1] hp g (ret (AV.bool (decide (x.l=y.l)))) hp g)/\Q AEx.ret (St.mk [(3,AV.bool (decide (x.l=y.l)))] [cO 1 fun x=>u1] g)) (fz y.2 1 (List.length y.l) fun i x=>ac y.l i)) ⟨omg,(fun _ _=>⟨rfl,(zC _ _ _ _ _ omg)⟩),?_⟩
 refine(aq (aR _ _ rfl trivial rfl rfl rfl) (Af _))
theorem zP {n i:Nat}(h:i<n):(List.range n).drop i=i::(List.range n).drop (i+1):=by
 rw[fl (List.range n) 0 (by rw[List.length_range];exact h)]
 congr 1
 rw[List.getD_eq_getElem?_getD,List.getElem?_range h]
 rfl
theorem zQ (R:Res)(n:Nat)(f:Nat->KL Int)(u:Value)(q:Nat->Bool)(g:R.σ)(hl:n<1000000)
  (hu:∀i,i<n->∀hp,VDoes Tryd.prog R u [aj (f i)] hp g (.ret (.bool (q i))) hp g) :
  Does Tryd.prog R 88 [bq n f,.val u] [] g (.ret (.int .i64 (aE q (List.range n) 0))) [] g:=by
 refine spW (nt:=19) (rs:=[.tmp 4]) (k0:=0) ?_
 refine vcR [] (lkL [(0,[0,1]),(1,[0,1,7,8])]) (fun _=>[]) (fun (Q:AEx->St R.σ->Prop)=>WpC Tryd.prog R 19 0 88 [1,0,1,0] Q [Kont.blk 0,Kont.seq [1,1]] (St.mk [(0,fz Fz.auto 1 n fun (i x:Nat)=>fz (f i).2 1 (List.length (f i).l) fun (i_1 x:Nat)=>ac (f i).l i_1),(1,val u),(7,i6 (↑n:Int)),(8,i6 0)] [] g)) (?_)
 refine(a8 krf (fun (i:Nat)=>⟨[(0,fz Fz.auto 1 n fun (i x:Nat)=>fz (f i).2 1 ((f i).l.length) fun (i_1 x:Nat)=>ac (f i).l i_1),(1,val u),(7,i6 (n:Int)),(8,.int .i64 (i:Int))],[],g⟩) (fun (i:Nat)=>(i<=n/\aE q (List.range n) 0=aE q ((List.range n).drop i) i)) (fun (i:Nat)=>(n-i)) 0 (aO ⟨Af _,Af _,Af _,(Ag krf),trivial⟩ rfl rfl) ?_ (fun i hi=>?_))
 ·exact⟨Nat.zero_le _,rfl⟩
 ·obtain⟨h1,h2⟩:=hi
  rcases Nat.lt_or_ge i n with hlt|hge
  ·have hq:=hu i hlt
   have hd:=zP hlt
   refine vcR [] (lkL [(2,[0,1,7,8,9]),(3,[0,1,5,7,8]),(4,[0,1,5,7,8,16]),(5,[4]),(6,[0,1,7,8])]) (lkL [(4,[(5,ROrc.kcall (AV.bool (q i)))])]) (fun Q=>(fun (u1:Int)=>(fun (u2:AV)=>(fun (u3:Int)=>(decide (u1<u3)=true->(0<=u1/\u1<u3)/\1<=1/\VDoes Tryd.prog R u [fz (f i).2 1 (List.length (f i).l) fun i_1 x=>ac (f i).l i_1] [] g (ret (AV.bool (q i))) [] g/\(q i=true->Q AEx.ret (St.mk [(4,i6 u1)] [] g))/\(q i=false->(-9223372036854775808<=u1+1/\u1+1<=9223372036854775807)/\Q AEx.normal (St.mk [(0,u2),(1,val u),(7,i6 u3),(8,i6 (u1+1))] [] g)))/\(decide (u1<u3)=false->Q (AEx.exit 0) (St.mk [(0,u2),(1,val u),(7,i6 u3),(8,i6 u1),(9,AV.bool (decide (u1<u3)))] [] g))) ((↑n:Int))) (fz Fz.auto 1 n fun i x=>fz (f i).2 1 (List.length (f i).l) fun i_1 x=>ac (f i).l i_1)) ((↑i:Int))) ⟨fun c1=>have c1:(↑i:Int)<(↑n:Int):=(of_decide_eq_true c1);⟨omg,omg,(hu (i) omg _),fun c2=>?_,fun c2=>⟨omg,?_⟩⟩,fun c1=>have c1:¬(↑i:Int)<(↑n:Int):=(of_decide_eq_false c1);?_⟩
   ·refine⟨_,Ar _,(aq (aR _ _ rfl trivial rfl rfl rfl) (Ag ?_))⟩
    show(i6 (↑i:Int))=_
    show AV.int _ _=AV.int _ _
    rw[h2,hd];unfold aE;rw[if_pos c2]
   ·refine(aQ (i+1) (aO ⟨Af _,Af _,Af _,(Ag krf),trivial⟩ rfl rfl) ?_ ?_)
    ·refine⟨omg,?_⟩
     rw[h2,hd];conv=>lhs;unfold aE
     rw[c2];rfl
    ·omega
   ·exfalso;omega
  ·have:i=n:=by omega
   subst this
   refine vcR [] (lkL [(2,[0,1,7,8,9]),(3,[0,1,5,7,8]),(4,[0,1,5,7,8,16]),(5,[4]),(6,[0,1,7,8])]) (lkL [(4,[(5,ROrc.kcall (AV.bool (q i)))])]) (fun Q=>(fun (u1:Int)=>(fun (u2:AV)=>(decide (u1<u1)=true->(0<=u1/\u1<u1)/\1<=1/\VDoes Tryd.prog R u [fz (f i).2 1 (List.length (f i).l) fun i_1 x=>ac (f i).l i_1] [] g (ret (AV.bool (q i))) [] g/\(q i=true->Q AEx.ret (St.mk [(4,i6 u1)] [] g))/\(q i=false->(-9223372036854775808<=u1+1/\u1+1<=9223372036854775807)/\Q AEx.normal (St.mk [(0,u2),(1,val u),(7,i6 u1),(8,i6 (u1+1))] [] g)))/\(decide (u1<u1)=false->Q (AEx.exit 0) (St.mk [(0,u2),(1,val u),(7,i6 u1),(8,i6 u1),(9,AV.bool (decide (u1<u1)))] [] g))) (fz Fz.auto 1 i fun i x=>fz (f i).2 1 (List.length (f i).l) fun i_1 x=>ac (f i).l i_1)) ((↑i:Int))) ⟨fun c1=>have c1:(↑i:Int)<(↑i:Int):=(of_decide_eq_true c1);⟨omg,omg,(hu (i) (by simp at * <;> omega) _),fun c2=>?_,fun c2=>⟨omg,?_⟩⟩,fun c1=>have c1:¬(↑i:Int)<(↑i:Int):=(of_decide_eq_false c1);?_⟩
   ·exfalso;omega
   ·exfalso;omega
   ·refine⟨_,Ar _,vcR [] (lkL [(7,[4])]) (fun _=>[]) (fun (Q:AEx->St R.σ->Prop)=>Q AEx.ret (St.mk [(4,i6 (-1))] [] g)) (?_)⟩
    refine(aq (aR _ _ rfl trivial rfl rfl rfl) (Ag ?_))
    show(i6 (-1))=_
    show AV.int _ _=AV.int _ _
    rw[h2,List.drop_eq_nil_of_le (by rw[List.length_range];omega)];rfl
theorem zR (R:Res)(n:Nat)(f:Nat->KL Int)(u:Value)(q:Nat->Bool)(g:R.σ)(hl:n<1000000)
  (hu:∀i,i<n->∀hp,VDoes Tryd.prog R u [aj (f i)] hp g (.ret (.bool (q i))) hp g) :
  Does Tryd.prog R 40 [bq n f,.val u] [] g (.ret (.bool ((List.range n).any q))) [] g:=by
 refine spW (nt:=9) (rs:=[.tmp 4]) (k0:=0) ?_
 refine vcR [] (lkL [(0,[0,1]),(1,[4])]) (lkL [(1,[(2,ROrc.kcall (i6 (aE q (List.range n) 0)))])]) (fun Q=>(true=true/\Does Tryd.prog R 88 [fz Fz.auto 1 n fun i x=>fz (f i).2 1 (List.length (f i).l) fun i_1 x=>ac (f i).l i_1,val u] [] g (ret (i6 (aE q (List.range n) 0))) [] g)/\Q AEx.ret (St.mk [(4,AV.bool (decide (aE q (List.range n) 0 >= 0)))] [] g)) ⟨⟨rfl,(zQ _ _ _ _ _ _ omg (fun _ _ _=>hu _ omg _))⟩,?_⟩
 refine(aq (aR _ _ rfl trivial rfl rfl rfl) (Ag ?_))
 show(AV.bool (decide (aE q (List.range n) 0 >= 0)))=_
 show AV.bool _=AV.bool _
 rw[kP]
theorem zS (R:Res)(n:Nat)(f:Nat->KL Int)(F na nb:Nat)(a b:Nat->AV)(q:Nat->Bool)(hp:List AObj)(g:R.σ)(hl:n<1000000)(hpl:bZ Tryd.prog F=true)
  (h:∀i,i<n->Does Tryd.prog R F (tab na 0 a++[aj (f i)]++tab nb 0 b) hp g (.ret (.bool (q i))) hp g) :
  Does Tryd.prog R 40 [bq n f,.fn F na a nb b] hp g (.ret (.bool ((List.range n).any q))) hp g:=
 jg (pre:=[bq n f]) (D:=fun i=>i<n) (args:=fun i=>[aj (f i)]) (oc1:=fun i=>.ret (.bool (q i))) ⟨trivial,trivial⟩ hpl (fun r=>⟨trivial,trivial⟩) (fun _=>trivial) h
  (fun R' g' u hu=>zR R' n f u q g' hl hu)
end Go.Avm.Pack
