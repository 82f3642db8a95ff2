/- TableKnown returns true, and leaves its arguments as they were. No conditions: every input that can be read as data. -/
import Derived.Test.YtbdagmhndndliaaDoorM4
namespace Go.Avm.Pack
open Go Go.Avm Go.Proofs
open Go.IntKind (i64 u64)
open Go.Avm.AV (int bool any fz fp sl ow ref fn ifc val agg tup)
open Go.Avm.AObj (cells dead)
open Go.Avm.Oc (ret)
set_option maxRecDepth 4000
theorem kZ (R:Res)(v:Nat->Int)(n:Int)(x:Int)(h:0<=n/\n<=24)(g:R.σ):Does Tryd.prog R 76 [.ref 0 2,.int .i64 n,.int .i64 x] [.cells false 27 (aH v)] g (.ret (.int .u64 (aB v x n.toNat))) [.cells false 27 (aH v)] g:=by
 obtain⟨n,rfl⟩:∃m:Nat,n=m:=⟨n.toNat,omg⟩
 rw[Int.toNat_natCast]
 refine spW (nt:=26) (rs:=[.tmp 6]) (k0:=1) ?_
 refine vcR [] (lkL [(0,[0,1,2]),(1,[0,1,2,7]),(2,[0,2,7,9,10])]) (fun _=>[]) (fun (Q:AEx->St R.σ->Prop)=>WpC Tryd.prog R 26 1 76 [1,1,0,1,0] Q [Kont.blk 0,Kont.seq [1,1,1]] (St.mk [(0,ref 0 2),(2,int i64 x),(7,int u64 0),(9,int i64 (↑n:Int)),(10,int i64 0)] [cells false 27 (aH v)] g)) (?_)
 refine(bq krf (fun (k:Nat)=>⟨[(0,ref 0 2),(2,int i64 x),(7,.int .u64 (aB v x k)),(9,int i64 (n:Int)),(10,.int .i64 k)],[cells false 27 (aH v)],g⟩) (fun (k:Nat)=>(k<=n)) (fun (k:Nat)=>(n-k)) 0 (bg ⟨yu _,yu _,(yv krf),yu _,(yv krf),trivial⟩ rfl rfl) ?_ (fun k hi=>?_))
 ·omega
 ·refine vcR [] (lkL [(3,[0,2,7,9,10,11]),(4,[0,2,7,8,9,10]),(5,[0,2,7,8,9,10,19]),(6,[0,2,7,9,10]),(7,[0,2,7,9,10])]) (lkL [(5,[(4,ROrc.kop (int i64 (v k)))]),(6,[(2,ROrc.pcall (int u64 (↑(2^k):Int)))])]) (fun Q=>(fun (u1:Int)=>(fun (u2:Int)=>(fun (u3:List AObj)=>(fun (u4:Int)=>(decide (u1<u2)=true->(0<=u1/\u1<(↑24:Int))/\OpOk Tryd.prog R (Oper.mk (some 17) (Op.load 43 (Operand.tmp 16)) 43 "table.go:67" #[Edge.mk 3 Ground.data] none) (evO [Row.mk (some 16) none (ref 0 (k+2)) false (some []) [],Row.mk (some 15) none (ref 0 2) false (some []) [],Row.mk (some 14) none (int i64 u1) false (some []) [],Row.mk (some 13) none (ref 0 2) false (some []) []] [(0,ref 0 2),(2,int i64 x),(7,int u64 u4),(8,int i64 u1),(9,int i64 u2),(10,int i64 u1)] []) u3 g (int i64 (v k)) u3 g/\((v k==x)=true->(∀(hp:List AObj) (g:R.σ),true=true/\Does Tryd.prog R 79 [int i64 u1] hp g (ret (int u64 (↑(2^k):Int))) hp g)/\(-9223372036854775808<=u1+1/\u1+1<=9223372036854775807)/\Q AEx.normal (St.mk [(0,ref 0 2),(2,int i64 x),(7,int u64 (IntKind.wrap u64 (↑(BitVec.toNat (BitVec.ofInt 64 u4|||BitVec.ofInt 64 (↑(2^k):Int))):Int))),(9,int i64 u2),(10,int i64 (u1+1))] u3 g))/\((v k==x)=false->(-9223372036854775808<=u1+1/\u1+1<=9223372036854775807)/\Q AEx.normal (St.mk [(0,ref 0 2),(2,int i64 x),(7,int u64 u4),(9,int i64 u2),(10,int i64 (u1+1))] u3 g)))/\(decide (u1<u2)=false->Q (AEx.exit 0) (St.mk [(0,ref 0 2),(2,int i64 x),(7,int u64 u4),(9,int i64 u2),(10,int i64 u1),(11,AV.bool (decide (u1<u2)))] u3 g))) ((↑(aB v x k):Int))) ([cells false 27 (aH v)])) ((↑n:Int))) ((↑k:Int))) ⟨fun c1=>have c1:(↑k:Int)<(↑n:Int):=(of_decide_eq_true c1);⟨omg,?_,fun c2=>have c2:v k=x:=(beq_iff_eq.mp c2);⟨(fun _ _=>⟨rfl,(gg _ _ omg _ _)⟩),omg,?_⟩,fun c2=>have c2:¬v k=x:=(beq_eq_false_iff_ne.mp c2);⟨omg,?_⟩⟩,fun c1=>have c1:¬(↑k:Int)<(↑n:Int):=(of_decide_eq_false c1);?_⟩
  ·exact dD rfl rfl krf rfl (by show _+1<=27;omega) (m7 omg omg)
  ·refine(aY (k+1) (bg ⟨yu _,yu _,(yv ?_),yu _,(yv krf),trivial⟩ rfl rfl) ?_ ?_)
   ·show AV.int .u64 _=AV.int .u64 _
    congr 1
    rw[gZ,if_pos c2]
    exact Tb.u64_or (bu (Nat.lt_of_lt_of_le (kx v x k) (Nat.pow_le_pow_right dcd omg))) (bu (Nat.pow_lt_pow_right dcd omg))
   ·omega
   ·omega
  ·refine(aY (k+1) (bg ⟨yu _,yu _,(yv ?_),yu _,(yv krf),trivial⟩ rfl rfl) ?_ ?_)
   ·show AV.int .u64 _=AV.int .u64 _
    rw[gZ,if_neg c2]
   ·omega
   ·omega
  ·have hk:k=n:=by omega
   subst hk
   refine⟨_,yG _,vcR [] (lkL [(8,[6])]) (fun _=>[]) (fun (Q:AEx->St R.σ->Prop)=>Q AEx.ret (St.mk [(6,int u64 (↑(aB v x k):Int))] [cells false 27 (aH v)] g)) (?_)⟩
   refine(av (aS _ _ rfl trivial rfl rfl rfl) (yu _))
def stF (p:Prg)(most:Nat):List Int->Nat->List Nat->List Nat
 |[],s,out=>if out.length=most then out else if fol p.rules.l s=s then out++[s] else out
 |a::r,s,out=>if out.length=most then out else stF p most r (s|||2^a.toNat) (stF p most r s out)
theorem el {p:Prg}{most:Nat}:∀{r:List Int} {s:Nat} {out:List Nat},out.length<=most->out.length<=(stF p most r s out).length/\(stF p most r s out).length<=most/\((stF p most r s out).length=out.length->stF p most r s out=out)
 |[],s,out,h=>by
  show out.length<=(if out.length=most then out else if fol p.rules.l s=s then out++[s] else out).length/\_
  show _/\(if out.length=most then out else if fol p.rules.l s=s then out++[s] else out).length<=most/\((if out.length=most then out else if fol p.rules.l s=s then out++[s] else out).length=out.length->(if out.length=most then out else if fol p.rules.l s=s then out++[s] else out)=out)
  split
  ·exact⟨Nat.le_refl _,h,fun _=>rfl⟩
  ·split
   ·rw[List.length_append,List.length_singleton]
    exact⟨omg,omg,fun h=>omg⟩
   ·exact⟨Nat.le_refl _,h,fun _=>rfl⟩
 |a::r,s,out,h=>by
  obtain⟨a1,a2,a3⟩:=el (p:=p) (most:=most) (r:=r) (s:=s) (out:=out) h
  obtain⟨b1,b2,b3⟩:=el (p:=p) (most:=most) (r:=r) (s:=s|||2^a.toNat) (out:=stF p most r s out) a2
  show out.length<=(if out.length=most then out else stF p most r (s|||2^a.toNat) (stF p most r s out)).length/\(if out.length=most then out else stF p most r (s|||2^a.toNat) (stF p most r s out)).length<=most/\((if out.length=most then out else stF p most r (s|||2^a.toNat) (stF p most r s out)).length=out.length->(if out.length=most then out else stF p most r (s|||2^a.toNat) (stF p most r s out))=out)
  split
  ·exact⟨Nat.le_refl _,h,fun _=>rfl⟩
  ·exact⟨omg,b2,fun h=>by
    have h1:=a3 omg
    rw[h1] at b3 b1 h ⊢
    exact b3 h⟩
theorem xB {p:Prg}{most:Nat}{r:List Int}{s:Nat}{out:List Nat}(h:out.length<=most)(h0:out≠[]):stF p most r s out≠[]:=fun e=>by
 have:=(el (p:=p) (r:=r) (s:=s) h).1
 rw[e] at this
 exact h0 (List.length_eq_zero_iff.1 (Nat.le_zero.1 this))
structure FromC (p:Prg)(most:Nat)(O:KL Int)(r:List Int)(k:Int):Prop where
 nn:∀(R:Res) [Tab LT R] (s:Nat) (g:R.σ),s<2^24->stF p most r s []=[]->Does Tryd.prog R 78 [.int .i64 k,.int .u64 s,.ref 0 0,.ref 1 0,.ref 2 0,.ref 3 0,.ref 4 0] [.cells false 1 (fun _=>.fz .nil 0 0 (fun _ _=>.any)),.cells false 1 (fun _=>.int .i64 most),.cells false 1 (fun _=>ag O),.cells false 1 (fun _=>.fn 78 0 (nth []) 5 (nth [.ref 0 0,.ref 1 0,.ref 2 0,.ref 3 0,.ref 4 0])),.cells false 2 (nth [.int .i64 p.atoms,af p.rules])] g (.ret (.tup 0 (nth []))) [.cells false 1 (fun _=>.fz .nil 0 0 (fun _ _=>.any)),.cells false 1 (fun _=>.int .i64 most),.cells false 1 (fun _=>ag O),.cells false 1 (fun _=>.fn 78 0 (nth []) 5 (nth [.ref 0 0,.ref 1 0,.ref 2 0,.ref 3 0,.ref 4 0])),.cells false 2 (nth [.int .i64 p.atoms,af p.rules])] g
 nw:∀(R:Res) [Tab LT R] (s m:Nat) (L:List Nat) (g:R.σ),s<2^24->stF p most r s []=L->L≠[]->m=L.length->Does Tryd.prog R 78 [.int .i64 k,.int .u64 s,.ref 0 0,.ref 1 0,.ref 2 0,.ref 3 0,.ref 4 0] [.cells false 1 (fun _=>.fz .nil 0 0 (fun _ _=>.any)),.cells false 1 (fun _=>.int .i64 most),.cells false 1 (fun _=>ag O),.cells false 1 (fun _=>.fn 78 0 (nth []) 5 (nth [.ref 0 0,.ref 1 0,.ref 2 0,.ref 3 0,.ref 4 0])),.cells false 2 (nth [.int .i64 p.atoms,af p.rules])] g (.ret (.tup 0 (nth []))) [.cells false 1 (fun _=>.ow true 5 m 1),.cells false 1 (fun _=>.int .i64 most),.cells false 1 (fun _=>ag O),.cells false 1 (fun _=>.fn 78 0 (nth []) 5 (nth [.ref 0 0,.ref 1 0,.ref 2 0,.ref 3 0,.ref 4 0])),.cells false 2 (nth [.int .i64 p.atoms,af p.rules]),.cells false (m*1) (aG L)] g
 on:∀(R:Res) [Tab LT R] (s m:Nat) (L:List Nat) (g:R.σ),s<2^24->L≠[]->m=L.length->m<=most->stF p most r s L=L->Does Tryd.prog R 78 [.int .i64 k,.int .u64 s,.ref 0 0,.ref 1 0,.ref 2 0,.ref 3 0,.ref 4 0] [.cells false 1 (fun _=>.ow true 5 m 1),.cells false 1 (fun _=>.int .i64 most),.cells false 1 (fun _=>ag O),.cells false 1 (fun _=>.fn 78 0 (nth []) 5 (nth [.ref 0 0,.ref 1 0,.ref 2 0,.ref 3 0,.ref 4 0])),.cells false 2 (nth [.int .i64 p.atoms,af p.rules]),.cells false (m*1) (aG L)] g (.ret (.tup 0 (nth []))) [.cells false 1 (fun _=>.ow true 5 m 1),.cells false 1 (fun _=>.int .i64 most),.cells false 1 (fun _=>ag O),.cells false 1 (fun _=>.fn 78 0 (nth []) 5 (nth [.ref 0 0,.ref 1 0,.ref 2 0,.ref 3 0,.ref 4 0])),.cells false 2 (nth [.int .i64 p.atoms,af p.rules]),.cells false (m*1) (aG L)] g
 ow:∀(R:Res) [Tab LT R] (s m m':Nat) (L L':List Nat) (g:R.σ),s<2^24->L≠[]->m=L.length->m<=most->stF p most r s L=L'->m'=L'.length->m≠m'->Does Tryd.prog R 78 [.int .i64 k,.int .u64 s,.ref 0 0,.ref 1 0,.ref 2 0,.ref 3 0,.ref 4 0] [.cells false 1 (fun _=>.ow true 5 m 1),.cells false 1 (fun _=>.int .i64 most),.cells false 1 (fun _=>ag O),.cells false 1 (fun _=>.fn 78 0 (nth []) 5 (nth [.ref 0 0,.ref 1 0,.ref 2 0,.ref 3 0,.ref 4 0])),.cells false 2 (nth [.int .i64 p.atoms,af p.rules]),.cells false (m*1) (aG L)] g (.ret (.tup 0 (nth []))) [.cells false 1 (fun _=>.ow true 6 m' 1),.cells false 1 (fun _=>.int .i64 most),.cells false 1 (fun _=>ag O),.cells false 1 (fun _=>.fn 78 0 (nth []) 5 (nth [.ref 0 0,.ref 1 0,.ref 2 0,.ref 3 0,.ref 4 0])),.cells false 2 (nth [.int .i64 p.atoms,af p.rules]),.dead,.cells false (m'*1) (aG L')] g
theorem la {P:Program}{R:Res}{k0:Nat}{rs:List ResultVar}{x:AV}{hp':List AObj}{g':R.σ}{s:St R.σ}(v:AV)(ob:List Prop)(h:dO (ax P) s rs=some (v,ob))(hob:ap ob)(ht:To R k0 ⟨[(0,v)],s.hp,s.g⟩ ⟨[(0,x)],hp',g'⟩):bw P R k0 rs (.ret x) hp' g' .normal s:=
 ⟨v,ob,x,_,h,hob,rfl,ht,rfl,rfl,rfl⟩
theorem lb {f:Nat->Nat}{g:FuncId}(h0:f 0=0:=by rfl)(h1:f 1=1:=by rfl)(h2:f 2=2:=by rfl)(h3:f 3=3:=by rfl)(h4:f 4=4:=by rfl):Le (.fn g 0 (nth []) 5 (nth [.ref 0 0,.ref 1 0,.ref 2 0,.ref 3 0,.ref 4 0])) (aE f (.fn g 0 (nth []) 5 (nth [.ref 0 0,.ref 1 0,.ref 2 0,.ref 3 0,.ref 4 0]))):=
 Le.fn (fun i hi=>absurd hi (Nat.not_lt_zero i)) (fun i hi=>match i,hi with
  |0,_=>yv (by show AV.ref 0 0=.ref (f 0) 0;rw[h0])
  |1,_=>yv (by show AV.ref 1 0=.ref (f 1) 0;rw[h1])
  |2,_=>yv (by show AV.ref 2 0=.ref (f 2) 0;rw[h2])
  |3,_=>yv (by show AV.ref 3 0=.ref (f 3) 0;rw[h3])
  |4,_=>yv (by show AV.ref 4 0=.ref (f 4) 0;rw[h4]))
theorem xC {p:Prg}{most:Nat}{O:KL Int}(hm:1<=most/\most<=100)(hO:O.l.length<=10)(hl:p.rules.l.length<1000000)(hr:∀r,r∈p.rules.l->aK r):FromC p most O [] O.l.length:=by
 have hroom:aL=140737488355328:=rfl
 have hb:decide ((O.l.length:Int)<(O.l.length:Int))=false:=decide_eq_false omg
 have hz:(((0:Nat):Int)==(most:Int))=false:=by rw[beq_eq_false_iff_ne];omega
 have e0:∀s L,stF p most [] s L=if L.length=most then L else if fol p.rules.l s=s then L++[s] else L:=fun s L=>rfl
 have hC:=fun (R:Res) [Tab LT R] (s:Nat) (hs:s<2^24) (g:R.σ)=>g6 R s hs g
 constructor
 ·intro R _ s g hs h
  rw[e0,if_neg (by show ¬0=most;omega)] at h
  have hf:((fol p.rules.l s:Int)==(s:Int))=false:=by
   rw[beq_eq_false_iff_ne]
   intro e
   rw[if_pos omg] at h
   cases h
  refine spW (nt:=47) (rs:=[]) (k0:=5) ?_
  refine vcR [[0,1,0],[0,1,1,1,0],[0,1,1,1,1,1,0]] (lkL [(0,[0,1,2,4,5,6,9]),(1,[0,1,2,4,5,6,14]),(4,[1,2,35])]) (lkL [(4,[(2,ROrc.pcall (int u64 (↑(fol p.rules.l s):Int)))])]) (fun Q=>(fun (u1:List AObj)=>(fun (u2:Int)=>(fun (u3:Bool)=>(fun (u4:AEx->St R.σ->Prop)=>(fun (u5:AV)=>(fun (u6:Bool)=>1<=1/\1<=1/\(u6=true->Wp Tryd.prog R 47 5 Rd.top (aw Tryd.prog 78) [0,1,0] u4 (St.mk [(0,int i64 u2),(1,u5),(2,ref 0 0),(4,ref 2 0),(5,ref 3 0),(6,ref 4 0),(9,AV.bool u6)] u1 g))/\(u6=false->1<=1/\(decide (u2<u2)=true->Wp Tryd.prog R 47 5 Rd.top (aw Tryd.prog 78) [0,1,1,1,0] u4 (St.mk [(0,int i64 u2),(1,u5),(2,ref 0 0),(4,ref 2 0),(5,ref 3 0),(6,ref 4 0),(14,AV.bool (decide (u2<u2)))] u1 g))/\(decide (u2<u2)=false->2<=2/\(∀(hp:List AObj) (g:R.σ),true=true/\Does Tryd.prog R 80 [aq p,u5] hp g (ret (int u64 (↑(fol p.rules.l s):Int))) hp g)/\(u3=true->Wp Tryd.prog R 47 5 Rd.top (aw Tryd.prog 78) [0,1,1,1,1,1,0] u4 (St.mk [(1,u5),(2,ref 0 0),(35,AV.bool u3)] u1 g))/\(u3=false->Q AEx.normal (St.mk [(1,u5),(2,ref 0 0),(35,AV.bool u3)] u1 g))))) ((↑0:Int)==(↑most:Int))) (int u64 (↑s:Int))) (aO Tryd.prog R 47 5 Rd.top (aw Tryd.prog 78) Q [Kont.blk 0])) ((↑(fol p.rules.l s):Int)==(↑s:Int))) ((↑(List.length O.l):Int))) ([cells false 1 fun x=>fz Fz.nil 0 0 fun x x_1=>any,cells false 1 fun x=>int i64 (↑most:Int),cells false 1 fun x=>fz O.2 1 (List.length O.l) fun i x=>ah O.l i,cells false 1 fun x=>fn 78 0 (nth []) 5 (nth [ref 0 0,ref 1 0,ref 2 0,ref 3 0,ref 4 0]),cells false 2 (nth [int i64 p.atoms,af p.rules])])) ⟨omg,omg,fun hcc=>(nomatch (hz.symm.trans hcc)),fun _=>⟨omg,fun hcc=>(nomatch (hb.symm.trans hcc)),fun _=>⟨omg,(fun _ _=>⟨rfl,(ky _ _ _ _ omg omg omg _)⟩),fun hcc=>(nomatch (hf.symm.trans hcc)),fun _=>?_⟩⟩⟩
  refine(av (aS _ _ rfl trivial rfl rfl rfl) (yu _))
 ·intro R _ s m L g hs h hL hmL
  rw[e0,if_neg (by show ¬0=most;omega)] at h
  have hf:((fol p.rules.l s:Int)==(s:Int))=true:=by
   rw[beq_iff_eq]
   by_cases e:fol p.rules.l s=s
   ·omega
   ·rw[if_neg e] at h
    exact absurd h.symm hL
  rw[if_pos (by rw[beq_iff_eq] at hf;omega)] at h
  subst h
  subst hmL
  refine spW (nt:=47) (rs:=[]) (k0:=5) ?_
  refine vcR [[0,1,0],[0,1,1,1,0],[0,1,1,1,1,1,1]] (lkL [(0,[0,1,2,4,5,6,9]),(1,[0,1,2,4,5,6,14]),(4,[1,2,35])]) (lkL [(4,[(2,ROrc.pcall (int u64 (↑(fol p.rules.l s):Int)))]),(5,[(2,ROrc.callN (fn 105 0 (nth []) 1 (nth [ref (List.length [cells false 1 fun (x:Nat)=>fz Fz.nil 0 0 fun (x x_1:Nat)=>any,cells false 1 fun (x:Nat)=>int i64 (↑most:Int),cells false 1 fun (x:Nat)=>fz O.2 1 (List.length O.l) fun (i x:Nat)=>ah O.l i,cells false 1 fun (x:Nat)=>fn 78 0 (nth []) 5 (nth [ref 0 0,ref 1 0,ref 2 0,ref 3 0,ref 4 0]),cells false 2 (nth [int i64 p.atoms,af p.rules])]) 0])) [] [cells false 1 fun (x:Nat)=>int u64 (↑s:Int)] g),(3,ROrc.callS (fz Fz.auto 1 (List.length (aj s).l) fun (i x:Nat)=>ah (aj s).l i) [(5,cells false 1 fun (j:Nat)=>any)] g),(5,ROrc.val (Orc.obj (aG ([]++[s])))),(6,ROrc.val (Orc.obj (nth [ow true 7 1 1])))])]) (fun Q=>(fun (u1:List AObj)=>(fun (u2:List AObj)=>(fun (u3:Int)=>(fun (u4:AV)=>(fun (u5:AV)=>(fun (u6:AEx->St R.σ->Prop)=>(fun (u7:AObj)=>(fun (u8:AObj)=>(fun (u9:Bool)=>(fun (u10:AV)=>(fun (u11:Bool)=>(fun (u12:AObj)=>(fun (u13:AObj)=>1<=1/\1<=1/\(u11=true->Wp Tryd.prog R 47 5 Rd.top (aw Tryd.prog 78) [0,1,0] u6 (St.mk [(0,int i64 u3),(1,u10),(2,ref 0 0),(4,ref 2 0),(5,ref 3 0),(6,ref 4 0),(9,AV.bool u11)] u1 g))/\(u11=false->1<=1/\(decide (u3<u3)=true->Wp Tryd.prog R 47 5 Rd.top (aw Tryd.prog 78) [0,1,1,1,0] u6 (St.mk [(0,int i64 u3),(1,u10),(2,ref 0 0),(4,ref 2 0),(5,ref 3 0),(6,ref 4 0),(14,AV.bool (decide (u3<u3)))] u1 g))/\(decide (u3<u3)=false->2<=2/\(∀(hp:List AObj) (g:R.σ),true=true/\Does Tryd.prog R 80 [aq p,u10] hp g (ret (int u64 (↑(fol p.rules.l s):Int))) hp g)/\(u9=true->Flw Tryd.prog/\1<=1/\(true=true/\Does Tryd.prog R 77 [u10] u1 g (ret (fn 105 0 (nth []) 1 (nth [ref 5 0]))) u2 g)/\(true=true/\Does Tryd.prog R 75 [fn 105 0 (nth []) 1 (nth [ref 5 0])] u2 g (ret u4) [cells false 1 fun x=>u5,u13,u8,u7,u12,cells false 1 fun j=>any] g)/\0<1/\24<=aL/\1<=aL/\1<=1/\(∀(c:Nat),c<1->(fz Fz.auto 1 (List.length (aj (List.getD ([]++[s]) c 0)).l) fun i x=>ah (aj (List.getD ([]++[s]) c 0)).l i)=aW 1 0 (fun (x x_1:Nat)=>any) (fun (i j:Nat)=>al (fun (j:Nat)=>u5) 0 1 (fun (x:Nat)=>u4) (0+i*1+j)) c)/\1<=1/\(∀(c:Nat),c<1->nth [ow true 7 1 1] c=al (fun (x:Nat)=>u5) 0 1 (fun (x:Nat)=>ow true 7 1 1) c)/\Q AEx.normal (St.mk [] [cells false 1 (nth [ow true 7 1 1]),u13,u8,u7,u12,cells false 1 fun j=>any,cells false 1 (al (fun (j:Nat)=>u5) 0 1 fun x=>u4),cells false 1 fun a=>fz Fz.auto 1 (List.length (aj (List.getD ([]++[s]) a 0)).l) fun i x=>ah (aj (List.getD ([]++[s]) a 0)).l i] g))/\(u9=false->Wp Tryd.prog R 47 5 Rd.top (aw Tryd.prog 78) [0,1,1,1,1,1,1] u6 (St.mk [(1,u10),(2,ref 0 0),(35,AV.bool u9)] u1 g))))) (cells false 1 fun x=>int i64 (↑most:Int))) (cells false 2 (nth [int i64 p.atoms,af p.rules]))) ((↑0:Int)==(↑most:Int))) (int u64 (↑s:Int))) ((↑(fol p.rules.l s):Int)==(↑s:Int))) (cells false 1 fun x=>fz O.2 1 (List.length O.l) fun i x=>ah O.l i)) (cells false 1 fun x=>fn 78 0 (nth []) 5 (nth [ref 0 0,ref 1 0,ref 2 0,ref 3 0,ref 4 0]))) (aO Tryd.prog R 47 5 Rd.top (aw Tryd.prog 78) Q [Kont.blk 0])) (fz Fz.nil 0 0 fun x x_1=>any)) (fz Fz.auto 1 (List.length (aj s).l) fun i x=>ah (aj s).l i)) ((↑(List.length O.l):Int))) ([cells false 1 fun x=>fz Fz.nil 0 0 fun x x_1=>any,cells false 1 fun x=>int i64 (↑most:Int),cells false 1 fun x=>fz O.2 1 (List.length O.l) fun i x=>ah O.l i,cells false 1 fun x=>fn 78 0 (nth []) 5 (nth [ref 0 0,ref 1 0,ref 2 0,ref 3 0,ref 4 0]),cells false 2 (nth [int i64 p.atoms,af p.rules]),cells false 1 fun x=>int u64 (↑s:Int)])) ([cells false 1 fun x=>fz Fz.nil 0 0 fun x x_1=>any,cells false 1 fun x=>int i64 (↑most:Int),cells false 1 fun x=>fz O.2 1 (List.length O.l) fun i x=>ah O.l i,cells false 1 fun x=>fn 78 0 (nth []) 5 (nth [ref 0 0,ref 1 0,ref 2 0,ref 3 0,ref 4 0]),cells false 2 (nth [int i64 p.atoms,af p.rules])])) ⟨omg,omg,fun hcc=>(nomatch (hz.symm.trans hcc)),fun _=>⟨omg,fun hcc=>(nomatch (hb.symm.trans hcc)),fun _=>⟨omg,(fun _ _=>⟨rfl,(ky _ _ _ _ omg omg omg _)⟩),fun _=>⟨krf,omg,⟨rfl,(cx _ _ _ _)⟩,⟨rfl,(doT (T:=LT) [5] 6 (fun R _ g=>hC R (s) omg g))⟩,omg,omg,omg,omg,?_,omg,(fun c hc=>match c,hc with|0,_=>krf ),?_⟩,fun hcc=>(nomatch (hf.symm.trans hcc))⟩⟩⟩
  ·exact fun c hc=>(kY (L:=[]) (m:=0) (z:=fun _=>.fz .nil 0 0 (fun _ _=>.any)) (old:=fun _ _=>.any) rfl (fun i hi=>absurd hi (Nat.not_lt_zero i)) hc).trans krf
  ·refine la (.tup 0 (nth [])) _ rfl trivial ?_
   refine dP [0,1,2,3,4,7] 8 ?_ ?_ ?_ ?_ ?_ ?_ ?_
   ·rfl
   ·rfl
   ·rfl
   ·rfl
   ·rfl
   ·exact⟨yu _,trivial⟩
   ·exact⟨⟨rfl,Nat.le_refl _,fun j hj=>match j,hj with|0,_=>yu _⟩,yx _,yx _,⟨rfl,Nat.le_refl _,fun j hj=>lb⟩,⟨rfl,Nat.le_refl _,fun j hj=>match j,hj with|0,_=>yu _|1,_=>bj (by exact trivial)⟩,⟨rfl,Nat.le_refl _,fun j hj=>yu _⟩,trivial⟩
 ·intro R _ s m L g hs hL hmL hmm h
  rw[e0] at h
  refine spW (nt:=47) (rs:=[]) (k0:=6) ?_
  refine vcR [[0,1,1,1,0]] (lkL [(0,[0,1,2,4,5,6,9]),(1,[0,1,2,4,5,6,14]),(4,[1,2,35])]) (lkL [(4,[(2,ROrc.pcall (int u64 (↑(fol p.rules.l s):Int)))]),(5,[(2,ROrc.callN (fn 105 0 (nth []) 1 (nth [ref (List.length [cells false 1 fun (x:Nat)=>ow true 5 m 1,cells false 1 fun (x:Nat)=>int i64 (↑most:Int),cells false 1 fun (x:Nat)=>fz O.2 1 (List.length O.l) fun (i x:Nat)=>ah O.l i,cells false 1 fun (x:Nat)=>fn 78 0 (nth []) 5 (nth [ref 0 0,ref 1 0,ref 2 0,ref 3 0,ref 4 0]),cells false 2 (nth [int i64 p.atoms,af p.rules]),cells false (m*1) fun (a:Nat)=>fz Fz.auto 1 (List.length (aj (List.getD L a 0)).l) fun (i x:Nat)=>ah (aj (List.getD L a 0)).l i]) 0])) [] [cells false 1 fun (x:Nat)=>int u64 (↑s:Int)] g),(3,ROrc.callS (fz Fz.auto 1 (List.length (aj s).l) fun (i x:Nat)=>ah (aj s).l i) [(6,cells false 1 fun (j:Nat)=>any)] g),(6,ROrc.val (Orc.obj (nth [ow true 8 (m+1) 1])))])]) (fun Q=>(fun (u1:List AObj)=>(fun (u2:List AObj)=>(fun (u3:Int)=>(fun (u4:AV)=>(fun (u5:AObj)=>(fun (u6:AObj)=>(fun (u7:Bool)=>(fun (u8:AV)=>(fun (u9:Bool)=>(fun (u10:AObj)=>(fun (u11:AObj)=>1<=1/\1<=1/\(u9=true->Q AEx.normal (St.mk [(0,int i64 u3),(1,u8),(2,ref 0 0),(4,ref 2 0),(5,ref 3 0),(6,ref 4 0),(9,AV.bool u9)] u1 g))/\(u9=false->1<=1/\(decide (u3<u3)=true->WpC Tryd.prog R 47 6 78 [0,1,1,1,0] Q [Kont.blk 0] (St.mk [(0,int i64 u3),(1,u8),(2,ref 0 0),(4,ref 2 0),(5,ref 3 0),(6,ref 4 0),(14,AV.bool (decide (u3<u3)))] u1 g))/\(decide (u3<u3)=false->2<=2/\(∀(hp:List AObj) (g:R.σ),true=true/\Does Tryd.prog R 80 [aq p,u8] hp g (ret (int u64 (↑(fol p.rules.l s):Int))) hp g)/\(u7=true->Flw Tryd.prog/\1<=1/\(true=true/\Does Tryd.prog R 77 [u8] u1 g (ret (fn 105 0 (nth []) 1 (nth [ref 6 0]))) u2 g)/\(true=true/\Does Tryd.prog R 75 [fn 105 0 (nth []) 1 (nth [ref 6 0])] u2 g (ret u4) [cells false 1 fun x=>ow true 5 m 1,u11,u6,u5,u10,cells false (m*1) fun a=>fz Fz.auto 1 (List.length (aj (List.getD L a 0)).l) fun i x=>ah (aj (List.getD L a 0)).l i,cells false 1 fun j=>any] g)/\0<1/\(m+1)*24<=aL/\m+1<=aL/\1<=1/\m*1<=m*1/\1<=1/\(∀(c:Nat),c<1->nth [ow true 8 (m+1) 1] c=al (fun (x:Nat)=>ow true 5 m 1) 0 1 (fun (x:Nat)=>ow true 8 (m+1) 1) c)/\Q AEx.normal (St.mk [] [cells false 1 (nth [ow true 8 (m+1) 1]),u11,u6,u5,u10,dead,cells false 1 fun j=>any,cells false 1 (al (fun (j:Nat)=>fz Fz.nil 0 0 fun x x_1=>any) 0 1 fun x=>u4),cells false ((m+1)*1) (aW 1 m (fun (i j:Nat)=>fz Fz.auto 1 (List.length (aj (List.getD L (i*1+j) 0)).l) fun i_1 x=>ah (aj (List.getD L (i*1+j) 0)).l i_1) fun i j=>al (fun (j:Nat)=>fz Fz.nil 0 0 fun x x_1=>any) 0 1 (fun (x:Nat)=>u4) (0+i*1+j))] g))/\(u7=false->Q AEx.normal (St.mk [(1,u8),(2,ref 0 0),(35,AV.bool u7)] u1 g))))) (cells false 1 fun x=>int i64 (↑most:Int))) (cells false 2 (nth [int i64 p.atoms,af p.rules]))) ((↑m:Int)==(↑most:Int))) (int u64 (↑s:Int))) ((↑(fol p.rules.l s):Int)==(↑s:Int))) (cells false 1 fun x=>fz O.2 1 (List.length O.l) fun i x=>ah O.l i)) (cells false 1 fun x=>fn 78 0 (nth []) 5 (nth [ref 0 0,ref 1 0,ref 2 0,ref 3 0,ref 4 0]))) (fz Fz.auto 1 (List.length (aj s).l) fun i x=>ah (aj s).l i)) ((↑(List.length O.l):Int))) ([cells false 1 fun x=>ow true 5 m 1,cells false 1 fun x=>int i64 (↑most:Int),cells false 1 fun x=>fz O.2 1 (List.length O.l) fun i x=>ah O.l i,cells false 1 fun x=>fn 78 0 (nth []) 5 (nth [ref 0 0,ref 1 0,ref 2 0,ref 3 0,ref 4 0]),cells false 2 (nth [int i64 p.atoms,af p.rules]),cells false (m*1) fun a=>fz Fz.auto 1 (List.length (aj (List.getD L a 0)).l) fun i x=>ah (aj (List.getD L a 0)).l i,cells false 1 fun x=>int u64 (↑s:Int)])) ([cells false 1 fun x=>ow true 5 m 1,cells false 1 fun x=>int i64 (↑most:Int),cells false 1 fun x=>fz O.2 1 (List.length O.l) fun i x=>ah O.l i,cells false 1 fun x=>fn 78 0 (nth []) 5 (nth [ref 0 0,ref 1 0,ref 2 0,ref 3 0,ref 4 0]),cells false 2 (nth [int i64 p.atoms,af p.rules]),cells false (m*1) fun a=>fz Fz.auto 1 (List.length (aj (List.getD L a 0)).l) fun i x=>ah (aj (List.getD L a 0)).l i])) ⟨omg,omg,fun c1=>have c1:(↑m:Int)=(↑most:Int):=(beq_iff_eq.mp c1);?_,fun c1=>have c1:¬(↑m:Int)=(↑most:Int):=(beq_eq_false_iff_ne.mp c1);⟨omg,fun hcc=>(nomatch (hb.symm.trans hcc)),fun _=>⟨omg,(fun _ _=>⟨rfl,(ky _ _ _ _ omg omg omg _)⟩),fun c2=>have c2:(↑(fol p.rules.l s):Int)=(↑s:Int):=(beq_iff_eq.mp c2);⟨krf,omg,⟨rfl,(cx _ _ _ _)⟩,⟨rfl,(doT (T:=LT) [6] 7 (fun R _ g=>hC R (s) omg g))⟩,omg,omg,omg,omg,omg,omg,(fun c hc=>match c,hc with|0,_=>krf ),?_⟩,fun c2=>have c2:¬(↑(fol p.rules.l s):Int)=(↑s:Int):=(beq_eq_false_iff_ne.mp c2);?_⟩⟩⟩
  ·refine(av (aS _ _ rfl trivial rfl rfl rfl) (yu _))
  ·exfalso
   rw[if_neg omg,if_pos omg] at h
   have:=congrArg List.length h
   rw[List.length_append,List.length_singleton] at this
   omega
  ·refine(av (aS _ _ rfl trivial rfl rfl rfl) (yu _))
 ·intro R _ s m m' L L' g hs hL hmL hmm h hm' hne
  rw[e0] at h
  have hf:((fol p.rules.l s:Int)==(s:Int))=true:=by
   rw[beq_iff_eq]
   by_cases e:fol p.rules.l s=s
   ·omega
   ·rw[if_neg e,ite_self] at h
    subst h
    omega
  have h1:¬L.length=most:=fun e=>by
   rw[if_pos e] at h
   subst h
   omega
  rw[if_neg h1,if_pos (by rw[beq_iff_eq] at hf;omega)] at h
  subst h
  have hmm1:m'=m+1:=by rw[hm',List.length_append,hmL];rfl
  subst hmm1
  have hz:((m:Int)==(most:Int))=false:=by rw[beq_eq_false_iff_ne];omega
  refine spW (nt:=47) (rs:=[]) (k0:=6) ?_
  refine vcR [[0,1,0],[0,1,1,1,0],[0,1,1,1,1,1,1]] (lkL [(0,[0,1,2,4,5,6,9]),(1,[0,1,2,4,5,6,14]),(4,[1,2,35])]) (lkL [(4,[(2,ROrc.pcall (int u64 (↑(fol p.rules.l s):Int)))]),(5,[(2,ROrc.callN (fn 105 0 (nth []) 1 (nth [ref (List.length [cells false 1 fun (x:Nat)=>ow true 5 m 1,cells false 1 fun (x:Nat)=>int i64 (↑most:Int),cells false 1 fun (x:Nat)=>fz O.2 1 (List.length O.l) fun (i x:Nat)=>ah O.l i,cells false 1 fun (x:Nat)=>fn 78 0 (nth []) 5 (nth [ref 0 0,ref 1 0,ref 2 0,ref 3 0,ref 4 0]),cells false 2 (nth [int i64 p.atoms,af p.rules]),cells false (m*1) fun (a:Nat)=>fz Fz.auto 1 (List.length (aj (List.getD L a 0)).l) fun (i x:Nat)=>ah (aj (List.getD L a 0)).l i]) 0])) [] [cells false 1 fun (x:Nat)=>int u64 (↑s:Int)] g),(3,ROrc.callS (fz Fz.auto 1 (List.length (aj s).l) fun (i x:Nat)=>ah (aj s).l i) [(6,cells false 1 fun (j:Nat)=>any)] g),(5,ROrc.val (Orc.obj (aG (L++[s])))),(6,ROrc.val (Orc.obj (nth [ow true 8 (m+1) 1])))])]) (fun Q=>(fun (u1:List AObj)=>(fun (u2:List AObj)=>(fun (u3:Int)=>(fun (u4:AV)=>(fun (u5:AEx->St R.σ->Prop)=>(fun (u6:AObj)=>(fun (u7:AObj)=>(fun (u8:Bool)=>(fun (u9:AV)=>(fun (u10:Bool)=>(fun (u11:AObj)=>(fun (u12:AObj)=>1<=1/\1<=1/\(u10=true->Wp Tryd.prog R 47 6 Rd.top (aw Tryd.prog 78) [0,1,0] u5 (St.mk [(0,int i64 u3),(1,u9),(2,ref 0 0),(4,ref 2 0),(5,ref 3 0),(6,ref 4 0),(9,AV.bool u10)] u1 g))/\(u10=false->1<=1/\(decide (u3<u3)=true->Wp Tryd.prog R 47 6 Rd.top (aw Tryd.prog 78) [0,1,1,1,0] u5 (St.mk [(0,int i64 u3),(1,u9),(2,ref 0 0),(4,ref 2 0),(5,ref 3 0),(6,ref 4 0),(14,AV.bool (decide (u3<u3)))] u1 g))/\(decide (u3<u3)=false->2<=2/\(∀(hp:List AObj) (g:R.σ),true=true/\Does Tryd.prog R 80 [aq p,u9] hp g (ret (int u64 (↑(fol p.rules.l s):Int))) hp g)/\(u8=true->Flw Tryd.prog/\1<=1/\(true=true/\Does Tryd.prog R 77 [u9] u1 g (ret (fn 105 0 (nth []) 1 (nth [ref 6 0]))) u2 g)/\(true=true/\Does Tryd.prog R 75 [fn 105 0 (nth []) 1 (nth [ref 6 0])] u2 g (ret u4) [cells false 1 fun x=>ow true 5 m 1,u12,u7,u6,u11,cells false (m*1) fun a=>fz Fz.auto 1 (List.length (aj (List.getD L a 0)).l) fun i x=>ah (aj (List.getD L a 0)).l i,cells false 1 fun j=>any] g)/\0<1/\(m+1)*24<=aL/\m+1<=aL/\1<=1/\m*1<=m*1/\(∀(c:Nat),c<(m+1)*1->(fz Fz.auto 1 (List.length (aj (List.getD (L++[s]) c 0)).l) fun i x=>ah (aj (List.getD (L++[s]) c 0)).l i)=aW 1 m (fun (i j:Nat)=>fz Fz.auto 1 (List.length (aj (List.getD L (i*1+j) 0)).l) fun i_1 x=>ah (aj (List.getD L (i*1+j) 0)).l i_1) (fun (i j:Nat)=>al (fun (j:Nat)=>fz Fz.nil 0 0 fun x x_1=>any) 0 1 (fun (x:Nat)=>u4) (0+i*1+j)) c)/\1<=1/\(∀(c:Nat),c<1->nth [ow true 8 (m+1) 1] c=al (fun (x:Nat)=>ow true 5 m 1) 0 1 (fun (x:Nat)=>ow true 8 (m+1) 1) c)/\Q AEx.normal (St.mk [] [cells false 1 (nth [ow true 8 (m+1) 1]),u12,u7,u6,u11,dead,cells false 1 fun j=>any,cells false 1 (al (fun (j:Nat)=>fz Fz.nil 0 0 fun x x_1=>any) 0 1 fun x=>u4),cells false ((m+1)*1) fun a=>fz Fz.auto 1 (List.length (aj (List.getD (L++[s]) a 0)).l) fun i x=>ah (aj (List.getD (L++[s]) a 0)).l i] g))/\(u8=false->Wp Tryd.prog R 47 6 Rd.top (aw Tryd.prog 78) [0,1,1,1,1,1,1] u5 (St.mk [(1,u9),(2,ref 0 0),(35,AV.bool u8)] u1 g))))) (cells false 1 fun x=>int i64 (↑most:Int))) (cells false 2 (nth [int i64 p.atoms,af p.rules]))) ((↑m:Int)==(↑most:Int))) (int u64 (↑s:Int))) ((↑(fol p.rules.l s):Int)==(↑s:Int))) (cells false 1 fun x=>fz O.2 1 (List.length O.l) fun i x=>ah O.l i)) (cells false 1 fun x=>fn 78 0 (nth []) 5 (nth [ref 0 0,ref 1 0,ref 2 0,ref 3 0,ref 4 0]))) (aO Tryd.prog R 47 6 Rd.top (aw Tryd.prog 78) Q [Kont.blk 0])) (fz Fz.auto 1 (List.length (aj s).l) fun i x=>ah (aj s).l i)) ((↑(List.length O.l):Int))) ([cells false 1 fun x=>ow true 5 m 1,cells false 1 fun x=>int i64 (↑most:Int),cells false 1 fun x=>fz O.2 1 (List.length O.l) fun i x=>ah O.l i,cells false 1 fun x=>fn 78 0 (nth []) 5 (nth [ref 0 0,ref 1 0,ref 2 0,ref 3 0,ref 4 0]),cells false 2 (nth [int i64 p.atoms,af p.rules]),cells false (m*1) fun a=>fz Fz.auto 1 (List.length (aj (List.getD L a 0)).l) fun i x=>ah (aj (List.getD L a 0)).l i,cells false 1 fun x=>int u64 (↑s:Int)])) ([cells false 1 fun x=>ow true 5 m 1,cells false 1 fun x=>int i64 (↑most:Int),cells false 1 fun x=>fz O.2 1 (List.length O.l) fun i x=>ah O.l i,cells false 1 fun x=>fn 78 0 (nth []) 5 (nth [ref 0 0,ref 1 0,ref 2 0,ref 3 0,ref 4 0]),cells false 2 (nth [int i64 p.atoms,af p.rules]),cells false (m*1) fun a=>fz Fz.auto 1 (List.length (aj (List.getD L a 0)).l) fun i x=>ah (aj (List.getD L a 0)).l i])) ⟨omg,omg,fun hcc=>(nomatch (hz.symm.trans hcc)),fun _=>⟨omg,fun hcc=>(nomatch (hb.symm.trans hcc)),fun _=>⟨omg,(fun _ _=>⟨rfl,(ky _ _ _ _ omg omg omg _)⟩),fun _=>⟨krf,omg,⟨rfl,(cx _ _ _ _)⟩,⟨rfl,(doT (T:=LT) [6] 7 (fun R _ g=>hC R (s) omg g))⟩,omg,omg,omg,omg,omg,?_,omg,(fun c hc=>match c,hc with|0,_=>krf ),?_⟩,fun hcc=>(nomatch (hf.symm.trans hcc))⟩⟩⟩
  ·exact fun c hc=>(kY (L:=L) (m:=m) (z:=fun _=>.fz .nil 0 0 (fun _ _=>.any)) (old:=fun i j=>aG L (i*1+j)) hmL (fun i hi=>by show aG L (i*1+0)=aG L i;rw[show i*1+0=i by omega]) hc).trans krf
  ·refine la (.tup 0 (nth [])) _ rfl trivial ?_
   refine dP [0,1,2,3,4,5,8] 9 ?_ ?_ ?_ ?_ ?_ ?_ ?_
   ·rfl
   ·rfl
   ·rfl
   ·rfl
   ·rfl
   ·exact⟨yu _,trivial⟩
   ·exact⟨⟨rfl,Nat.le_refl _,fun j hj=>match j,hj with|0,_=>yu _⟩,yx _,yx _,⟨rfl,Nat.le_refl _,fun j hj=>lb⟩,⟨rfl,Nat.le_refl _,fun j hj=>match j,hj with|0,_=>yu _|1,_=>bj (by exact trivial)⟩,trivial,⟨rfl,Nat.le_refl _,fun j hj=>yu _⟩,trivial⟩
theorem xD {p:Prg}{most:Nat}{O:KL Int}{r:List Int}{k:Nat}(hm:1<=most/\most<=100)(hO:O.l.length<=10)(hk:k<O.l.length)(ha24:0<=O.l.getD k 0/\O.l.getD k 0<24)(ih:FromC p most O r ((k:Int)+1)):FromC p most O (O.l.getD k 0::r) (k:Int):=by
 have hroom:aL=140737488355328:=rfl
 have hb:decide ((k:Int)<(O.l.length:Int))=true:=decide_eq_true (by omega)
 have hz:(((0:Nat):Int)==(most:Int))=false:=by rw[beq_eq_false_iff_ne];omega
 have e0:∀s L,stF p most (O.l.getD k 0::r) s L=if L.length=most then L else stF p most r (s|||2^(O.l.getD k 0).toNat) (stF p most r s L):=fun s L=>rfl
 have hor:∀s:Nat,s<2^24->IntKind.u64.wrap ((BitVec.ofInt 64 (s:Int)|||BitVec.ofInt 64 ((2^(O.l.getD k 0).toNat:Nat):Int)).toNat:Int)=((s|||2^(O.l.getD k 0).toNat:Nat):Int):=fun s hs=>Tb.u64_or (bu hs) (bu (Nat.pow_lt_pow_right (by decide) (by omega)))
 have hor24:∀s:Nat,s<2^24->s|||2^(O.l.getD k 0).toNat<2^24:=fun s hs=>jp hs (by omega)
 constructor
 ·intro R _ s g hs h
  rw[e0,if_neg (by show ¬0=most;omega)] at h
  obtain⟨t,ht⟩:∃t,s|||2^(O.l.getD k 0).toNat=t:=⟨_,rfl⟩
  have ht24:t<2^24:=by rw[<-ht];exact hor24 s hs
  have hoS:=(hor s hs).trans (congrArg (fun n:Nat=>(n:Int)) ht)
  have hL1:stF p most r s []=[]:=by
   by_cases e:stF p most r s []=[]
   ·exact e
   ·exact absurd h (xB (el (Nat.zero_le _)).2.1 e)
  rw[hL1,ht] at h
  have i1:=fun (R:Res) [Tab LT R] (g:R.σ)=>ih.nn R s g hs hL1
  have i2:∀(R:Res) [Tab LT R] (g:R.σ),Does Tryd.prog R 78 [.int .i64 ((k:Int)+1),.int .u64 (IntKind.u64.wrap ((BitVec.ofInt 64 (s:Int)|||BitVec.ofInt 64 ((2^(O.l.getD k 0).toNat:Nat):Int)).toNat:Int)),.ref 0 0,.ref 1 0,.ref 2 0,.ref 3 0,.ref 4 0] [.cells false 1 (fun _=>.fz .nil 0 0 (fun _ _=>.any)),.cells false 1 (fun _=>.int .i64 most),.cells false 1 (fun _=>ag O),.cells false 1 (fun _=>.fn 78 0 (nth []) 5 (nth [.ref 0 0,.ref 1 0,.ref 2 0,.ref 3 0,.ref 4 0])),.cells false 2 (nth [.int .i64 p.atoms,af p.rules])] g (.ret (.tup 0 (nth []))) [.cells false 1 (fun _=>.fz .nil 0 0 (fun _ _=>.any)),.cells false 1 (fun _=>.int .i64 most),.cells false 1 (fun _=>ag O),.cells false 1 (fun _=>.fn 78 0 (nth []) 5 (nth [.ref 0 0,.ref 1 0,.ref 2 0,.ref 3 0,.ref 4 0])),.cells false 2 (nth [.int .i64 p.atoms,af p.rules])] g:=fun R _ g=>by rw[hoS];exact ih.nn R t g ht24 h
  refine dp (nt:=47) (rs:=[]) (k0:=5) (by kernel_rfl) (by kernel_rfl) (by kernel_rfl) rfl ?_
  refine vcQ [[0,1,0],[0,1,1,1,1]] (lkL [(0,[0,1,2,4,5,6,9]),(1,[0,1,2,4,5,6,14]),(2,[0,1,4,5])]) (lkL [(2,[(4,ROrc.call (tup 0 (nth [])) [cells false 1 fun (x:Nat)=>fz Fz.nil 0 0 fun _ _=>any,cells false 1 fun (x:Nat)=>int i64 (most:Int),cells false 1 fun (x:Nat)=>ag O,cells false 1 fun (x:Nat)=>fn 78 0 (nth []) 5 (nth [ref 0 0,ref 1 0,ref 2 0,ref 3 0,ref 4 0]),cells false 2 (nth [int i64 p.atoms,af p.rules])] g)]),(3,[(8,ROrc.pcall (int u64 (↑(2^(O.l.getD k 0).toNat):Int))),(10,ROrc.callS (tup 0 (nth [])) [(2,cells false 1 fun (x:Nat)=>ag O)] g)])]) (fun Q=>(fun (u1:List AObj)=>(fun (u2:Int)=>(fun (u3:Int)=>(fun (u4:Bool)=>1<=1/\1<=1/\(u4=true->Wp Tryd.prog R 47 5 Rd.top (aw Tryd.prog 78) [0,1,0] (aO Tryd.prog R 47 5 Rd.top (aw Tryd.prog 78) Q [Kont.blk 0]) (St.mk [(0,int i64 u3),(1,int u64 (s:Int)),(2,ref 0 0),(4,ref 2 0),(5,ref 3 0),(6,ref 4 0),(9,AV.bool u4)] u1 g))/\(u4=false->1<=1/\(decide (u3<u2)=true->1<=1/\(-9223372036854775808<=u3+1/\u3+1<=9223372036854775807)/\(true=true/\Does Tryd.prog R 78 [int i64 (u3+1),int u64 (s:Int),ref 0 0,ref 1 0,ref 2 0,ref 3 0,ref 4 0] u1 g (ret (tup 0 (nth []))) u1 g)/\Tables.follows Tryd.prog.toTables Departure.mixedOrders=true/\1<=1/\(-9223372036854775808<=u3+1/\u3+1<=9223372036854775807)/\1<=1/\(0<=u3/\u3<u2)/\1<=1/\(∀(hp:List AObj) (g:R.σ),true=true/\Does Tryd.prog R 79 [ah O.l k] hp g (ret (int u64 (↑(2^(O.l.getD k 0).toNat):Int))) hp g)/\(true=true/\Does Tryd.prog R 78 [int i64 (u3+1),int u64 (IntKind.wrap u64 (↑(BitVec.toNat (BitVec.ofInt 64 (s:Int)|||BitVec.ofInt 64 (↑(2^(O.l.getD k 0).toNat):Int))):Int)),ref 0 0,ref 1 0,ref 2 0,ref 3 0,ref 4 0] u1 g (ret (tup 0 (nth []))) u1 g)/\Q AEx.normal (St.mk [] u1 g))/\(decide (u3<u2)=false->Wp Tryd.prog R 47 5 Rd.top (aw Tryd.prog 78) [0,1,1,1,1] (aO Tryd.prog R 47 5 Rd.top (aw Tryd.prog 78) Q [Kont.blk 0]) (St.mk [(0,int i64 u3),(1,int u64 (s:Int)),(2,ref 0 0),(4,ref 2 0),(5,ref 3 0),(6,ref 4 0),(14,AV.bool (decide (u3<u2)))] u1 g)))) ((↑0:Int)==(most:Int))) ((k:Int))) ((O.l.length:Int))) ([cells false 1 fun (x:Nat)=>fz Fz.nil 0 0 fun _ _=>any,cells false 1 fun (x:Nat)=>int i64 (most:Int),cells false 1 fun (x:Nat)=>fz O.2 1 (O.l.length) fun (i x:Nat)=>ah O.l i,cells false 1 fun (x:Nat)=>fn 78 0 (nth []) 5 (nth [ref 0 0,ref 1 0,ref 2 0,ref 3 0,ref 4 0]),cells false 2 (nth [int i64 p.atoms,af p.rules])])) (fun _=>by kernel_rfl) ⟨by omega,by omega,fun hcc=>(nomatch (hz.symm.trans hcc)),fun _=>⟨by omega,fun _=>⟨by omega,by omega,⟨rfl,(i1 _ _)⟩,by kernel_rfl,by omega,by omega,by omega,by omega,by omega,(fun _ _=>⟨rfl,(dG _ _ (by omega) _ _)⟩),⟨rfl,(i2 _ _)⟩,?_⟩,fun hcc=>(nomatch (hb.symm.trans hcc))⟩⟩
  refine(av (aS _ _ rfl trivial rfl rfl rfl) (yu _))
 ·intro R _ s m' L' g hs h hL' hm'
  rw[e0,if_neg (by show ¬0=most;omega)] at h
  obtain⟨t,ht⟩:∃t,s|||2^(O.l.getD k 0).toNat=t:=⟨_,rfl⟩
  have ht24:t<2^24:=by rw[<-ht];exact hor24 s hs
  have hoS:=(hor s hs).trans (congrArg (fun n:Nat=>(n:Int)) ht)
  rw[ht] at h
  obtain⟨L,hL⟩:∃L,stF p most r s []=L:=⟨_,rfl⟩
  have hlen:=el (p:=p) (most:=most) (r:=r) (s:=s) (out:=[]) (Nat.zero_le _)
  rw[hL] at h hlen
  by_cases e:L=[]
  ·subst e
   have i1:=fun (R:Res) [Tab LT R] (g:R.σ)=>ih.nn R s g hs hL
   have i2:∀(R:Res) [Tab LT R] (g:R.σ),Does Tryd.prog R 78 [.int .i64 ((k:Int)+1),.int .u64 (IntKind.u64.wrap ((BitVec.ofInt 64 (s:Int)|||BitVec.ofInt 64 ((2^(O.l.getD k 0).toNat:Nat):Int)).toNat:Int)),.ref 0 0,.ref 1 0,.ref 2 0,.ref 3 0,.ref 4 0] [.cells false 1 (fun _=>.fz .nil 0 0 (fun _ _=>.any)),.cells false 1 (fun _=>.int .i64 most),.cells false 1 (fun _=>ag O),.cells false 1 (fun _=>.fn 78 0 (nth []) 5 (nth [.ref 0 0,.ref 1 0,.ref 2 0,.ref 3 0,.ref 4 0])),.cells false 2 (nth [.int .i64 p.atoms,af p.rules])] g (.ret (.tup 0 (nth []))) [.cells false 1 (fun _=>.ow true 5 m' 1),.cells false 1 (fun _=>.int .i64 most),.cells false 1 (fun _=>ag O),.cells false 1 (fun _=>.fn 78 0 (nth []) 5 (nth [.ref 0 0,.ref 1 0,.ref 2 0,.ref 3 0,.ref 4 0])),.cells false 2 (nth [.int .i64 p.atoms,af p.rules]),.cells false (m'*1) (aG L')] g:=fun R _ g=>by rw[hoS];exact ih.nw R t m' L' g ht24 h hL' hm'
   refine dp (nt:=47) (rs:=[]) (k0:=5) (by kernel_rfl) (by kernel_rfl) (by kernel_rfl) rfl ?_
   refine vcQ [[0,1,0],[0,1,1,1,1]] (lkL [(0,[0,1,2,4,5,6,9]),(1,[0,1,2,4,5,6,14]),(2,[0,1,4,5])]) (lkL [(2,[(4,ROrc.call (tup 0 (nth [])) [cells false 1 fun (x:Nat)=>fz Fz.nil 0 0 fun _ _=>any,cells false 1 fun (x:Nat)=>int i64 (most:Int),cells false 1 fun (x:Nat)=>ag O,cells false 1 fun (x:Nat)=>fn 78 0 (nth []) 5 (nth [ref 0 0,ref 1 0,ref 2 0,ref 3 0,ref 4 0]),cells false 2 (nth [int i64 p.atoms,af p.rules])] g)]),(3,[(8,ROrc.pcall (int u64 (↑(2^(O.l.getD k 0).toNat):Int))),(10,ROrc.callN (tup 0 (nth [])) [(0,cells false 1 fun (x:Nat)=>ow true 5 m' 1),(2,cells false 1 fun (x:Nat)=>ag O)] [cells false (m'*1) (aG L')] g)])]) (fun Q=>(fun (u1:List AObj)=>(fun (u2:List AObj)=>(fun (u3:Int)=>(fun (u4:Int)=>(fun (u5:Bool)=>1<=1/\1<=1/\(u5=true->Wp Tryd.prog R 47 5 Rd.top (aw Tryd.prog 78) [0,1,0] (aO Tryd.prog R 47 5 Rd.top (aw Tryd.prog 78) Q [Kont.blk 0]) (St.mk [(0,int i64 u4),(1,int u64 (s:Int)),(2,ref 0 0),(4,ref 2 0),(5,ref 3 0),(6,ref 4 0),(9,AV.bool u5)] u1 g))/\(u5=false->1<=1/\(decide (u4<u3)=true->1<=1/\(-9223372036854775808<=u4+1/\u4+1<=9223372036854775807)/\(true=true/\Does Tryd.prog R 78 [int i64 (u4+1),int u64 (s:Int),ref 0 0,ref 1 0,ref 2 0,ref 3 0,ref 4 0] u1 g (ret (tup 0 (nth []))) u1 g)/\Tables.follows Tryd.prog.toTables Departure.mixedOrders=true/\1<=1/\(-9223372036854775808<=u4+1/\u4+1<=9223372036854775807)/\1<=1/\(0<=u4/\u4<u3)/\1<=1/\(∀(hp:List AObj) (g:R.σ),true=true/\Does Tryd.prog R 79 [ah O.l k] hp g (ret (int u64 (↑(2^(O.l.getD k 0).toNat):Int))) hp g)/\(true=true/\Does Tryd.prog R 78 [int i64 (u4+1),int u64 (IntKind.wrap u64 (↑(BitVec.toNat (BitVec.ofInt 64 (s:Int)|||BitVec.ofInt 64 (↑(2^(O.l.getD k 0).toNat):Int))):Int)),ref 0 0,ref 1 0,ref 2 0,ref 3 0,ref 4 0] u1 g (ret (tup 0 (nth []))) u2 g)/\Q AEx.normal (St.mk [] u2 g))/\(decide (u4<u3)=false->Wp Tryd.prog R 47 5 Rd.top (aw Tryd.prog 78) [0,1,1,1,1] (aO Tryd.prog R 47 5 Rd.top (aw Tryd.prog 78) Q [Kont.blk 0]) (St.mk [(0,int i64 u4),(1,int u64 (s:Int)),(2,ref 0 0),(4,ref 2 0),(5,ref 3 0),(6,ref 4 0),(14,AV.bool (decide (u4<u3)))] u1 g)))) ((↑0:Int)==(most:Int))) ((k:Int))) ((O.l.length:Int))) ([cells false 1 fun (x:Nat)=>ow true 5 m' 1,cells false 1 fun (x:Nat)=>int i64 (most:Int),cells false 1 fun (x:Nat)=>fz O.2 1 (O.l.length) fun (i x:Nat)=>ah O.l i,cells false 1 fun (x:Nat)=>fn 78 0 (nth []) 5 (nth [ref 0 0,ref 1 0,ref 2 0,ref 3 0,ref 4 0]),cells false 2 (nth [int i64 p.atoms,af p.rules]),cells false (m'*1) fun (a:Nat)=>fz Fz.auto 1 ((aj (L'.getD a 0)).l.length) fun (i x:Nat)=>ah (aj (L'.getD a 0)).l i])) ([cells false 1 fun (x:Nat)=>fz Fz.nil 0 0 fun _ _=>any,cells false 1 fun (x:Nat)=>int i64 (most:Int),cells false 1 fun (x:Nat)=>fz O.2 1 (O.l.length) fun (i x:Nat)=>ah O.l i,cells false 1 fun (x:Nat)=>fn 78 0 (nth []) 5 (nth [ref 0 0,ref 1 0,ref 2 0,ref 3 0,ref 4 0]),cells false 2 (nth [int i64 p.atoms,af p.rules])])) (fun _=>by kernel_rfl) ⟨by omega,by omega,fun hcc=>(nomatch (hz.symm.trans hcc)),fun _=>⟨by omega,fun _=>⟨by omega,by omega,⟨rfl,(i1 _ _)⟩,by kernel_rfl,by omega,by omega,by omega,by omega,by omega,(fun _ _=>⟨rfl,(dG _ _ (by omega) _ _)⟩),⟨rfl,(i2 _ _)⟩,?_⟩,fun hcc=>(nomatch (hb.symm.trans hcc))⟩⟩
   refine(av (aS _ _ rfl trivial rfl rfl rfl) (yu _))
  ·obtain⟨m,hmL⟩:∃m,m=L.length:=⟨_,rfl⟩
   have h0:0<m:=by rw[hmL];exact List.length_pos_iff.2 e
   have hmm:m<=most:=by rw[hmL];exact hlen.2.1
   have hlen2:=el (p:=p) (most:=most) (r:=r) (s:=t) (out:=L) hlen.2.1
   rw[h] at hlen2
   have h0':0<m':=by omega
   have hmm':m'<=most:=by omega
   have i1:=fun (R:Res) [Tab LT R] (g:R.σ)=>ih.nw R s m L g hs hL e hmL
   by_cases hmm1:m=m'
   ·have hLL:L'=L:=hlen2.2.2 (by omega)
    subst hLL
    subst hmm1
    have i2:∀(R:Res) [Tab LT R] (g:R.σ),Does Tryd.prog R 78 [.int .i64 ((k:Int)+1),.int .u64 (IntKind.u64.wrap ((BitVec.ofInt 64 (s:Int)|||BitVec.ofInt 64 ((2^(O.l.getD k 0).toNat:Nat):Int)).toNat:Int)),.ref 0 0,.ref 1 0,.ref 2 0,.ref 3 0,.ref 4 0] [.cells false 1 (fun _=>.ow true 5 m 1),.cells false 1 (fun _=>.int .i64 most),.cells false 1 (fun _=>ag O),.cells false 1 (fun _=>.fn 78 0 (nth []) 5 (nth [.ref 0 0,.ref 1 0,.ref 2 0,.ref 3 0,.ref 4 0])),.cells false 2 (nth [.int .i64 p.atoms,af p.rules]),.cells false (m*1) (aG L')] g (.ret (.tup 0 (nth []))) [.cells false 1 (fun _=>.ow true 5 m 1),.cells false 1 (fun _=>.int .i64 most),.cells false 1 (fun _=>ag O),.cells false 1 (fun _=>.fn 78 0 (nth []) 5 (nth [.ref 0 0,.ref 1 0,.ref 2 0,.ref 3 0,.ref 4 0])),.cells false 2 (nth [.int .i64 p.atoms,af p.rules]),.cells false (m*1) (aG L')] g:=fun R _ g=>by rw[hoS];exact ih.on R t m L' g ht24 hL' hmL hmm h
    refine dp (nt:=47) (rs:=[]) (k0:=5) (by kernel_rfl) (by kernel_rfl) (by kernel_rfl) rfl ?_
    refine vcQ [[0,1,0],[0,1,1,1,1]] (lkL [(0,[0,1,2,4,5,6,9]),(1,[0,1,2,4,5,6,14]),(2,[0,1,4,5])]) (lkL [(2,[(4,ROrc.call (tup 0 (nth [])) [cells false 1 fun (x:Nat)=>ow true 5 m 1,cells false 1 fun (x:Nat)=>int i64 (most:Int),cells false 1 fun (x:Nat)=>ag O,cells false 1 fun (x:Nat)=>fn 78 0 (nth []) 5 (nth [ref 0 0,ref 1 0,ref 2 0,ref 3 0,ref 4 0]),cells false 2 (nth [int i64 p.atoms,af p.rules]),cells false (m*1) (aG L')] g)]),(3,[(8,ROrc.pcall (int u64 (↑(2^(O.l.getD k 0).toNat):Int))),(10,ROrc.callS (tup 0 (nth [])) [(2,cells false 1 fun (x:Nat)=>ag O),(5,cells false (m*1) (aG L'))] g)])]) (fun Q=>(fun (u1:List AObj)=>(fun (u2:List AObj)=>(fun (u3:Int)=>(fun (u4:Int)=>(fun (u5:Bool)=>1<=1/\1<=1/\(u5=true->Wp Tryd.prog R 47 5 Rd.top (aw Tryd.prog 78) [0,1,0] (aO Tryd.prog R 47 5 Rd.top (aw Tryd.prog 78) Q [Kont.blk 0]) (St.mk [(0,int i64 u4),(1,int u64 (s:Int)),(2,ref 0 0),(4,ref 2 0),(5,ref 3 0),(6,ref 4 0),(9,AV.bool u5)] u2 g))/\(u5=false->1<=1/\(decide (u4<u3)=true->1<=1/\(-9223372036854775808<=u4+1/\u4+1<=9223372036854775807)/\(true=true/\Does Tryd.prog R 78 [int i64 (u4+1),int u64 (s:Int),ref 0 0,ref 1 0,ref 2 0,ref 3 0,ref 4 0] u2 g (ret (tup 0 (nth []))) u1 g)/\Tables.follows Tryd.prog.toTables Departure.mixedOrders=true/\1<=1/\(-9223372036854775808<=u4+1/\u4+1<=9223372036854775807)/\1<=1/\(0<=u4/\u4<u3)/\1<=1/\(∀(hp:List AObj) (g:R.σ),true=true/\Does Tryd.prog R 79 [ah O.l k] hp g (ret (int u64 (↑(2^(O.l.getD k 0).toNat):Int))) hp g)/\(true=true/\Does Tryd.prog R 78 [int i64 (u4+1),int u64 (IntKind.wrap u64 (↑(BitVec.toNat (BitVec.ofInt 64 (s:Int)|||BitVec.ofInt 64 (↑(2^(O.l.getD k 0).toNat):Int))):Int)),ref 0 0,ref 1 0,ref 2 0,ref 3 0,ref 4 0] u1 g (ret (tup 0 (nth []))) u1 g)/\Q AEx.normal (St.mk [] u1 g))/\(decide (u4<u3)=false->Wp Tryd.prog R 47 5 Rd.top (aw Tryd.prog 78) [0,1,1,1,1] (aO Tryd.prog R 47 5 Rd.top (aw Tryd.prog 78) Q [Kont.blk 0]) (St.mk [(0,int i64 u4),(1,int u64 (s:Int)),(2,ref 0 0),(4,ref 2 0),(5,ref 3 0),(6,ref 4 0),(14,AV.bool (decide (u4<u3)))] u2 g)))) ((↑0:Int)==(most:Int))) ((k:Int))) ((O.l.length:Int))) ([cells false 1 fun (x:Nat)=>fz Fz.nil 0 0 fun _ _=>any,cells false 1 fun (x:Nat)=>int i64 (most:Int),cells false 1 fun (x:Nat)=>fz O.2 1 (O.l.length) fun (i x:Nat)=>ah O.l i,cells false 1 fun (x:Nat)=>fn 78 0 (nth []) 5 (nth [ref 0 0,ref 1 0,ref 2 0,ref 3 0,ref 4 0]),cells false 2 (nth [int i64 p.atoms,af p.rules])])) ([cells false 1 fun (x:Nat)=>ow true 5 m 1,cells false 1 fun (x:Nat)=>int i64 (most:Int),cells false 1 fun (x:Nat)=>fz O.2 1 (O.l.length) fun (i x:Nat)=>ah O.l i,cells false 1 fun (x:Nat)=>fn 78 0 (nth []) 5 (nth [ref 0 0,ref 1 0,ref 2 0,ref 3 0,ref 4 0]),cells false 2 (nth [int i64 p.atoms,af p.rules]),cells false (m*1) fun (a:Nat)=>fz Fz.auto 1 ((aj (L'.getD a 0)).l.length) fun (i x:Nat)=>ah (aj (L'.getD a 0)).l i])) (fun _=>by kernel_rfl) ⟨by omega,by omega,fun hcc=>(nomatch (hz.symm.trans hcc)),fun _=>⟨by omega,fun _=>⟨by omega,by omega,⟨rfl,(i1 _ _)⟩,by kernel_rfl,by omega,by omega,by omega,by omega,by omega,(fun _ _=>⟨rfl,(dG _ _ (by omega) _ _)⟩),⟨rfl,(i2 _ _)⟩,?_⟩,fun hcc=>(nomatch (hb.symm.trans hcc))⟩⟩
    refine(av (aS _ _ rfl trivial rfl rfl rfl) (yu _))
   ·have i2:∀(R:Res) [Tab LT R] (g:R.σ),Does Tryd.prog R 78 [.int .i64 ((k:Int)+1),.int .u64 (IntKind.u64.wrap ((BitVec.ofInt 64 (s:Int)|||BitVec.ofInt 64 ((2^(O.l.getD k 0).toNat:Nat):Int)).toNat:Int)),.ref 0 0,.ref 1 0,.ref 2 0,.ref 3 0,.ref 4 0] [.cells false 1 (fun _=>.ow true 5 m 1),.cells false 1 (fun _=>.int .i64 most),.cells false 1 (fun _=>ag O),.cells false 1 (fun _=>.fn 78 0 (nth []) 5 (nth [.ref 0 0,.ref 1 0,.ref 2 0,.ref 3 0,.ref 4 0])),.cells false 2 (nth [.int .i64 p.atoms,af p.rules]),.cells false (m*1) (aG L)] g (.ret (.tup 0 (nth []))) [.cells false 1 (fun _=>.ow true 6 m' 1),.cells false 1 (fun _=>.int .i64 most),.cells false 1 (fun _=>ag O),.cells false 1 (fun _=>.fn 78 0 (nth []) 5 (nth [.ref 0 0,.ref 1 0,.ref 2 0,.ref 3 0,.ref 4 0])),.cells false 2 (nth [.int .i64 p.atoms,af p.rules]),.dead,.cells false (m'*1) (aG L')] g:=fun R _ g=>by rw[hoS];exact ih.ow R t m m' L L' g ht24 e hmL hmm h hm' hmm1
    refine dp (nt:=47) (rs:=[]) (k0:=5) (by kernel_rfl) (by kernel_rfl) (by kernel_rfl) rfl ?_
    refine vcQ [[0,1,0],[0,1,1,1,1]] (lkL [(0,[0,1,2,4,5,6,9]),(1,[0,1,2,4,5,6,14]),(2,[0,1,4,5])]) (lkL [(2,[(4,ROrc.call (tup 0 (nth [])) [cells false 1 fun (x:Nat)=>ow true 5 m 1,cells false 1 fun (x:Nat)=>int i64 (most:Int),cells false 1 fun (x:Nat)=>ag O,cells false 1 fun (x:Nat)=>fn 78 0 (nth []) 5 (nth [ref 0 0,ref 1 0,ref 2 0,ref 3 0,ref 4 0]),cells false 2 (nth [int i64 p.atoms,af p.rules]),cells false (m*1) (aG L)] g)]),(3,[(8,ROrc.pcall (int u64 (↑(2^(O.l.getD k 0).toNat):Int))),(10,ROrc.callN (tup 0 (nth [])) [(0,cells false 1 fun (x:Nat)=>ow true 6 m' 1),(2,cells false 1 fun (x:Nat)=>ag O),(5,dead)] [cells false (m'*1) (aG L')] g)])]) (fun Q=>(fun (u1:List AObj)=>(fun (u2:List AObj)=>(fun (u3:List AObj)=>(fun (u4:Int)=>(fun (u5:Int)=>(fun (u6:Bool)=>1<=1/\1<=1/\(u6=true->Wp Tryd.prog R 47 5 Rd.top (aw Tryd.prog 78) [0,1,0] (aO Tryd.prog R 47 5 Rd.top (aw Tryd.prog 78) Q [Kont.blk 0]) (St.mk [(0,int i64 u5),(1,int u64 (s:Int)),(2,ref 0 0),(4,ref 2 0),(5,ref 3 0),(6,ref 4 0),(9,AV.bool u6)] u1 g))/\(u6=false->1<=1/\(decide (u5<u4)=true->1<=1/\(-9223372036854775808<=u5+1/\u5+1<=9223372036854775807)/\(true=true/\Does Tryd.prog R 78 [int i64 (u5+1),int u64 (s:Int),ref 0 0,ref 1 0,ref 2 0,ref 3 0,ref 4 0] u1 g (ret (tup 0 (nth []))) u3 g)/\Tables.follows Tryd.prog.toTables Departure.mixedOrders=true/\1<=1/\(-9223372036854775808<=u5+1/\u5+1<=9223372036854775807)/\1<=1/\(0<=u5/\u5<u4)/\1<=1/\(∀(hp:List AObj) (g:R.σ),true=true/\Does Tryd.prog R 79 [ah O.l k] hp g (ret (int u64 (↑(2^(O.l.getD k 0).toNat):Int))) hp g)/\(true=true/\Does Tryd.prog R 78 [int i64 (u5+1),int u64 (IntKind.wrap u64 (↑(BitVec.toNat (BitVec.ofInt 64 (s:Int)|||BitVec.ofInt 64 (↑(2^(O.l.getD k 0).toNat):Int))):Int)),ref 0 0,ref 1 0,ref 2 0,ref 3 0,ref 4 0] u3 g (ret (tup 0 (nth []))) u2 g)/\Q AEx.normal (St.mk [] u2 g))/\(decide (u5<u4)=false->Wp Tryd.prog R 47 5 Rd.top (aw Tryd.prog 78) [0,1,1,1,1] (aO Tryd.prog R 47 5 Rd.top (aw Tryd.prog 78) Q [Kont.blk 0]) (St.mk [(0,int i64 u5),(1,int u64 (s:Int)),(2,ref 0 0),(4,ref 2 0),(5,ref 3 0),(6,ref 4 0),(14,AV.bool (decide (u5<u4)))] u1 g)))) ((↑0:Int)==(most:Int))) ((k:Int))) ((O.l.length:Int))) ([cells false 1 fun (x:Nat)=>ow true 5 m 1,cells false 1 fun (x:Nat)=>int i64 (most:Int),cells false 1 fun (x:Nat)=>fz O.2 1 (O.l.length) fun (i x:Nat)=>ah O.l i,cells false 1 fun (x:Nat)=>fn 78 0 (nth []) 5 (nth [ref 0 0,ref 1 0,ref 2 0,ref 3 0,ref 4 0]),cells false 2 (nth [int i64 p.atoms,af p.rules]),cells false (m*1) fun (a:Nat)=>fz Fz.auto 1 ((aj (L.getD a 0)).l.length) fun (i x:Nat)=>ah (aj (L.getD a 0)).l i])) ([cells false 1 fun (x:Nat)=>ow true 6 m' 1,cells false 1 fun (x:Nat)=>int i64 (most:Int),cells false 1 fun (x:Nat)=>fz O.2 1 (O.l.length) fun (i x:Nat)=>ah O.l i,cells false 1 fun (x:Nat)=>fn 78 0 (nth []) 5 (nth [ref 0 0,ref 1 0,ref 2 0,ref 3 0,ref 4 0]),cells false 2 (nth [int i64 p.atoms,af p.rules]),dead,cells false (m'*1) fun (a:Nat)=>fz Fz.auto 1 ((aj (L'.getD a 0)).l.length) fun (i x:Nat)=>ah (aj (L'.getD a 0)).l i])) ([cells false 1 fun (x:Nat)=>fz Fz.nil 0 0 fun _ _=>any,cells false 1 fun (x:Nat)=>int i64 (most:Int),cells false 1 fun (x:Nat)=>fz O.2 1 (O.l.length) fun (i x:Nat)=>ah O.l i,cells false 1 fun (x:Nat)=>fn 78 0 (nth []) 5 (nth [ref 0 0,ref 1 0,ref 2 0,ref 3 0,ref 4 0]),cells false 2 (nth [int i64 p.atoms,af p.rules])])) (fun _=>by kernel_rfl) ⟨by omega,by omega,fun hcc=>(nomatch (hz.symm.trans hcc)),fun _=>⟨by omega,fun _=>⟨by omega,by omega,⟨rfl,(i1 _ _)⟩,by kernel_rfl,by omega,by omega,by omega,by omega,by omega,(fun _ _=>⟨rfl,(dG _ _ (by omega) _ _)⟩),⟨rfl,(i2 _ _)⟩,?_⟩,fun hcc=>(nomatch (hb.symm.trans hcc))⟩⟩
    refine la (.tup 0 (nth [])) _ rfl trivial ?_
    refine dP [0,1,2,3,4,6] 7 ?_ ?_ ?_ ?_ ?_ ?_ ?_
    ·rfl
    ·rfl
    ·rfl
    ·rfl
    ·rfl
    ·exact⟨yu _,trivial⟩
    ·exact⟨⟨rfl,Nat.le_refl _,fun j hj=>yu _⟩,yx _,yx _,⟨rfl,Nat.le_refl _,fun j hj=>lb⟩,⟨rfl,Nat.le_refl _,fun j hj=>match j,hj with|0,_=>yu _|1,_=>bj (by exact trivial)⟩,⟨rfl,Nat.le_refl _,fun j hj=>yu _⟩,trivial⟩
 ·intro R _ s m L g hs hL hmL hmm h
  rw[e0] at h
  have h0:0<m:=by rw[hmL];exact List.length_pos_iff.2 hL
  by_cases hf:m=most
  ·have hz:((m:Int)==(most:Int))=true:=by rw[beq_iff_eq];omega
   refine dp (nt:=47) (rs:=[]) (k0:=6) (by kernel_rfl) (by kernel_rfl) (by kernel_rfl) rfl ?_
   refine vcQ [[0,1,1]] (lkL [(0,[0,1,2,4,5,6,9])]) (fun _=>[]) (fun Q=>(fun (u1:St R.σ)=>1<=1/\1<=1/\(((m:Int)==(most:Int))=true->Q AEx.normal u1)/\(((m:Int)==(most:Int))=false->Wp Tryd.prog R 47 6 Rd.top (aw Tryd.prog 78) [0,1,1] (aO Tryd.prog R 47 6 Rd.top (aw Tryd.prog 78) Q [Kont.blk 0]) u1)) (St.mk [(0,int i64 (k:Int)),(1,int u64 (s:Int)),(2,ref 0 0),(4,ref 2 0),(5,ref 3 0),(6,ref 4 0),(9,AV.bool ((m:Int)==(most:Int)))] [cells false 1 fun (x:Nat)=>ow true 5 m 1,cells false 1 fun (x:Nat)=>int i64 (most:Int),cells false 1 fun (x:Nat)=>fz O.2 1 (O.l.length) fun (i x:Nat)=>ah O.l i,cells false 1 fun (x:Nat)=>fn 78 0 (nth []) 5 (nth [ref 0 0,ref 1 0,ref 2 0,ref 3 0,ref 4 0]),cells false 2 (nth [int i64 p.atoms,af p.rules]),cells false (m*1) fun (a:Nat)=>fz Fz.auto 1 ((aj (L.getD a 0)).l.length) fun (i x:Nat)=>ah (aj (L.getD a 0)).l i] g)) (fun _=>by kernel_rfl) ⟨by omega,by omega,fun _=>?_,fun hcc=>(nomatch (hz.symm.trans hcc))⟩
   refine(av (aS _ _ rfl trivial rfl rfl rfl) (yu _))
  ·have hz:((m:Int)==(most:Int))=false:=by rw[beq_eq_false_iff_ne];omega
   rw[if_neg (by omega)] at h
   obtain⟨t,ht⟩:∃t,s|||2^(O.l.getD k 0).toNat=t:=⟨_,rfl⟩
   have ht24:t<2^24:=by rw[<-ht];exact hor24 s hs
   have hoS:=(hor s hs).trans (congrArg (fun n:Nat=>(n:Int)) ht)
   rw[ht] at h
   have hlen:=el (p:=p) (most:=most) (r:=r) (s:=s) (out:=L) (by omega)
   have hlen2:=el (p:=p) (most:=most) (r:=r) (s:=t) (out:=stF p most r s L) hlen.2.1
   rw[h] at hlen2
   have hL1:=hlen.2.2 (by omega)
   rw[hL1] at h
   have i1:=fun (R:Res) [Tab LT R] (g:R.σ)=>ih.on R s m L g hs hL hmL hmm hL1
   have i2:∀(R:Res) [Tab LT R] (g:R.σ),Does Tryd.prog R 78 [.int .i64 ((k:Int)+1),.int .u64 (IntKind.u64.wrap ((BitVec.ofInt 64 (s:Int)|||BitVec.ofInt 64 ((2^(O.l.getD k 0).toNat:Nat):Int)).toNat:Int)),.ref 0 0,.ref 1 0,.ref 2 0,.ref 3 0,.ref 4 0] [.cells false 1 (fun _=>.ow true 5 m 1),.cells false 1 (fun _=>.int .i64 most),.cells false 1 (fun _=>ag O),.cells false 1 (fun _=>.fn 78 0 (nth []) 5 (nth [.ref 0 0,.ref 1 0,.ref 2 0,.ref 3 0,.ref 4 0])),.cells false 2 (nth [.int .i64 p.atoms,af p.rules]),.cells false (m*1) (aG L)] g (.ret (.tup 0 (nth []))) [.cells false 1 (fun _=>.ow true 5 m 1),.cells false 1 (fun _=>.int .i64 most),.cells false 1 (fun _=>ag O),.cells false 1 (fun _=>.fn 78 0 (nth []) 5 (nth [.ref 0 0,.ref 1 0,.ref 2 0,.ref 3 0,.ref 4 0])),.cells false 2 (nth [.int .i64 p.atoms,af p.rules]),.cells false (m*1) (aG L)] g:=fun R _ g=>by rw[hoS];exact ih.on R t m L g ht24 hL hmL hmm h
   refine dp (nt:=47) (rs:=[]) (k0:=6) (by kernel_rfl) (by kernel_rfl) (by kernel_rfl) rfl ?_
   refine vcQ [[0,1,0],[0,1,1,1,1]] (lkL [(0,[0,1,2,4,5,6,9]),(1,[0,1,2,4,5,6,14]),(2,[0,1,4,5])]) (lkL [(2,[(4,ROrc.call (tup 0 (nth [])) [cells false 1 fun (x:Nat)=>ow true 5 m 1,cells false 1 fun (x:Nat)=>int i64 (most:Int),cells false 1 fun (x:Nat)=>ag O,cells false 1 fun (x:Nat)=>fn 78 0 (nth []) 5 (nth [ref 0 0,ref 1 0,ref 2 0,ref 3 0,ref 4 0]),cells false 2 (nth [int i64 p.atoms,af p.rules]),cells false (m*1) (aG L)] g)]),(3,[(8,ROrc.pcall (int u64 (↑(2^(O.l.getD k 0).toNat):Int))),(10,ROrc.callS (tup 0 (nth [])) [(2,cells false 1 fun (x:Nat)=>ag O),(5,cells false (m*1) (aG L))] g)])]) (fun Q=>(fun (u1:List AObj)=>(fun (u2:Int)=>(fun (u3:Int)=>(fun (u4:Bool)=>1<=1/\1<=1/\(u4=true->Wp Tryd.prog R 47 6 Rd.top (aw Tryd.prog 78) [0,1,0] (aO Tryd.prog R 47 6 Rd.top (aw Tryd.prog 78) Q [Kont.blk 0]) (St.mk [(0,int i64 u3),(1,int u64 (s:Int)),(2,ref 0 0),(4,ref 2 0),(5,ref 3 0),(6,ref 4 0),(9,AV.bool u4)] u1 g))/\(u4=false->1<=1/\(decide (u3<u2)=true->1<=1/\(-9223372036854775808<=u3+1/\u3+1<=9223372036854775807)/\(true=true/\Does Tryd.prog R 78 [int i64 (u3+1),int u64 (s:Int),ref 0 0,ref 1 0,ref 2 0,ref 3 0,ref 4 0] u1 g (ret (tup 0 (nth []))) u1 g)/\Tables.follows Tryd.prog.toTables Departure.mixedOrders=true/\1<=1/\(-9223372036854775808<=u3+1/\u3+1<=9223372036854775807)/\1<=1/\(0<=u3/\u3<u2)/\1<=1/\(∀(hp:List AObj) (g:R.σ),true=true/\Does Tryd.prog R 79 [ah O.l k] hp g (ret (int u64 (↑(2^(O.l.getD k 0).toNat):Int))) hp g)/\(true=true/\Does Tryd.prog R 78 [int i64 (u3+1),int u64 (IntKind.wrap u64 (↑(BitVec.toNat (BitVec.ofInt 64 (s:Int)|||BitVec.ofInt 64 (↑(2^(O.l.getD k 0).toNat):Int))):Int)),ref 0 0,ref 1 0,ref 2 0,ref 3 0,ref 4 0] u1 g (ret (tup 0 (nth []))) u1 g)/\Q AEx.normal (St.mk [] u1 g))/\(decide (u3<u2)=false->Wp Tryd.prog R 47 6 Rd.top (aw Tryd.prog 78) [0,1,1,1,1] (aO Tryd.prog R 47 6 Rd.top (aw Tryd.prog 78) Q [Kont.blk 0]) (St.mk [(0,int i64 u3),(1,int u64 (s:Int)),(2,ref 0 0),(4,ref 2 0),(5,ref 3 0),(6,ref 4 0),(14,AV.bool (decide (u3<u2)))] u1 g)))) ((m:Int)==(most:Int))) ((k:Int))) ((O.l.length:Int))) ([cells false 1 fun (x:Nat)=>ow true 5 m 1,cells false 1 fun (x:Nat)=>int i64 (most:Int),cells false 1 fun (x:Nat)=>fz O.2 1 (O.l.length) fun (i x:Nat)=>ah O.l i,cells false 1 fun (x:Nat)=>fn 78 0 (nth []) 5 (nth [ref 0 0,ref 1 0,ref 2 0,ref 3 0,ref 4 0]),cells false 2 (nth [int i64 p.atoms,af p.rules]),cells false (m*1) fun (a:Nat)=>fz Fz.auto 1 ((aj (L.getD a 0)).l.length) fun (i x:Nat)=>ah (aj (L.getD a 0)).l i])) (fun _=>by kernel_rfl) ⟨by omega,by omega,fun hcc=>(nomatch (hz.symm.trans hcc)),fun _=>⟨by omega,fun _=>⟨by omega,by omega,⟨rfl,(i1 _ _)⟩,by kernel_rfl,by omega,by omega,by omega,by omega,by omega,(fun _ _=>⟨rfl,(dG _ _ (by omega) _ _)⟩),⟨rfl,(i2 _ _)⟩,?_⟩,fun hcc=>(nomatch (hb.symm.trans hcc))⟩⟩
   refine(av (aS _ _ rfl trivial rfl rfl rfl) (yu _))
 ·intro R _ s m m' L L' g hs hL hmL hmm h hm' hne
  rw[e0] at h
  have h0:0<m:=by rw[hmL];exact List.length_pos_iff.2 hL
  have hf:¬m=most:=fun e=>by
   rw[if_pos (by omega)] at h
   subst h
   omega
  have hz:((m:Int)==(most:Int))=false:=by rw[beq_eq_false_iff_ne];omega
  rw[if_neg (by omega)] at h
  obtain⟨t,ht⟩:∃t,s|||2^(O.l.getD k 0).toNat=t:=⟨_,rfl⟩
  have ht24:t<2^24:=by rw[<-ht];exact hor24 s hs
  have hoS:=(hor s hs).trans (congrArg (fun n:Nat=>(n:Int)) ht)
  rw[ht] at h
  have hlen:=el (p:=p) (most:=most) (r:=r) (s:=s) (out:=L) (by omega)
  obtain⟨L1,hL1⟩:∃L1,stF p most r s L=L1:=⟨_,rfl⟩
  obtain⟨m1,hm1⟩:∃m1,m1=L1.length:=⟨_,rfl⟩
  rw[hL1] at h hlen
  have hlen2:=el (p:=p) (most:=most) (r:=r) (s:=t) (out:=L1) hlen.2.1
  rw[h] at hlen2
  have h01:0<m1:=by omega
  have h0':0<m':=by omega
  have hmm1:m1<=most:=by omega
  have hmm':m'<=most:=by omega
  have hL1n:L1≠[]:=List.length_pos_iff.1 (by omega)
  by_cases e1:m=m1
  ·have hLL:L1=L:=hlen.2.2 (by omega)
   subst hLL
   have i1:=fun (R:Res) [Tab LT R] (g:R.σ)=>ih.on R s m L1 g hs hL hmL hmm hL1
   have i2:∀(R:Res) [Tab LT R] (g:R.σ),Does Tryd.prog R 78 [.int .i64 ((k:Int)+1),.int .u64 (IntKind.u64.wrap ((BitVec.ofInt 64 (s:Int)|||BitVec.ofInt 64 ((2^(O.l.getD k 0).toNat:Nat):Int)).toNat:Int)),.ref 0 0,.ref 1 0,.ref 2 0,.ref 3 0,.ref 4 0] [.cells false 1 (fun _=>.ow true 5 m 1),.cells false 1 (fun _=>.int .i64 most),.cells false 1 (fun _=>ag O),.cells false 1 (fun _=>.fn 78 0 (nth []) 5 (nth [.ref 0 0,.ref 1 0,.ref 2 0,.ref 3 0,.ref 4 0])),.cells false 2 (nth [.int .i64 p.atoms,af p.rules]),.cells false (m*1) (aG L1)] g (.ret (.tup 0 (nth []))) [.cells false 1 (fun _=>.ow true 6 m' 1),.cells false 1 (fun _=>.int .i64 most),.cells false 1 (fun _=>ag O),.cells false 1 (fun _=>.fn 78 0 (nth []) 5 (nth [.ref 0 0,.ref 1 0,.ref 2 0,.ref 3 0,.ref 4 0])),.cells false 2 (nth [.int .i64 p.atoms,af p.rules]),.dead,.cells false (m'*1) (aG L')] g:=fun R _ g=>by rw[hoS];exact ih.ow R t m m' L1 L' g ht24 hL hmL hmm h hm' hne
   refine dp (nt:=47) (rs:=[]) (k0:=6) (by kernel_rfl) (by kernel_rfl) (by kernel_rfl) rfl ?_
   refine vcQ [[0,1,0],[0,1,1,1,1]] (lkL [(0,[0,1,2,4,5,6,9]),(1,[0,1,2,4,5,6,14]),(2,[0,1,4,5])]) (lkL [(2,[(4,ROrc.call (tup 0 (nth [])) [cells false 1 fun (x:Nat)=>ow true 5 m 1,cells false 1 fun (x:Nat)=>int i64 (most:Int),cells false 1 fun (x:Nat)=>ag O,cells false 1 fun (x:Nat)=>fn 78 0 (nth []) 5 (nth [ref 0 0,ref 1 0,ref 2 0,ref 3 0,ref 4 0]),cells false 2 (nth [int i64 p.atoms,af p.rules]),cells false (m*1) (aG L1)] g)]),(3,[(8,ROrc.pcall (int u64 (↑(2^(O.l.getD k 0).toNat):Int))),(10,ROrc.callN (tup 0 (nth [])) [(0,cells false 1 fun (x:Nat)=>ow true 6 m' 1),(2,cells false 1 fun (x:Nat)=>ag O),(5,dead)] [cells false (m'*1) (aG L')] g)])]) (fun Q=>(fun (u1:List AObj)=>(fun (u2:List AObj)=>(fun (u3:Int)=>(fun (u4:Int)=>(fun (u5:Bool)=>1<=1/\1<=1/\(u5=true->Wp Tryd.prog R 47 6 Rd.top (aw Tryd.prog 78) [0,1,0] (aO Tryd.prog R 47 6 Rd.top (aw Tryd.prog 78) Q [Kont.blk 0]) (St.mk [(0,int i64 u4),(1,int u64 (s:Int)),(2,ref 0 0),(4,ref 2 0),(5,ref 3 0),(6,ref 4 0),(9,AV.bool u5)] u1 g))/\(u5=false->1<=1/\(decide (u4<u3)=true->1<=1/\(-9223372036854775808<=u4+1/\u4+1<=9223372036854775807)/\(true=true/\Does Tryd.prog R 78 [int i64 (u4+1),int u64 (s:Int),ref 0 0,ref 1 0,ref 2 0,ref 3 0,ref 4 0] u1 g (ret (tup 0 (nth []))) u1 g)/\Tables.follows Tryd.prog.toTables Departure.mixedOrders=true/\1<=1/\(-9223372036854775808<=u4+1/\u4+1<=9223372036854775807)/\1<=1/\(0<=u4/\u4<u3)/\1<=1/\(∀(hp:List AObj) (g:R.σ),true=true/\Does Tryd.prog R 79 [ah O.l k] hp g (ret (int u64 (↑(2^(O.l.getD k 0).toNat):Int))) hp g)/\(true=true/\Does Tryd.prog R 78 [int i64 (u4+1),int u64 (IntKind.wrap u64 (↑(BitVec.toNat (BitVec.ofInt 64 (s:Int)|||BitVec.ofInt 64 (↑(2^(O.l.getD k 0).toNat):Int))):Int)),ref 0 0,ref 1 0,ref 2 0,ref 3 0,ref 4 0] u1 g (ret (tup 0 (nth []))) u2 g)/\Q AEx.normal (St.mk [] u2 g))/\(decide (u4<u3)=false->Wp Tryd.prog R 47 6 Rd.top (aw Tryd.prog 78) [0,1,1,1,1] (aO Tryd.prog R 47 6 Rd.top (aw Tryd.prog 78) Q [Kont.blk 0]) (St.mk [(0,int i64 u4),(1,int u64 (s:Int)),(2,ref 0 0),(4,ref 2 0),(5,ref 3 0),(6,ref 4 0),(14,AV.bool (decide (u4<u3)))] u1 g)))) ((m:Int)==(most:Int))) ((k:Int))) ((O.l.length:Int))) ([cells false 1 fun (x:Nat)=>ow true 6 m' 1,cells false 1 fun (x:Nat)=>int i64 (most:Int),cells false 1 fun (x:Nat)=>fz O.2 1 (O.l.length) fun (i x:Nat)=>ah O.l i,cells false 1 fun (x:Nat)=>fn 78 0 (nth []) 5 (nth [ref 0 0,ref 1 0,ref 2 0,ref 3 0,ref 4 0]),cells false 2 (nth [int i64 p.atoms,af p.rules]),dead,cells false (m'*1) fun (a:Nat)=>fz Fz.auto 1 ((aj (L'.getD a 0)).l.length) fun (i x:Nat)=>ah (aj (L'.getD a 0)).l i])) ([cells false 1 fun (x:Nat)=>ow true 5 m 1,cells false 1 fun (x:Nat)=>int i64 (most:Int),cells false 1 fun (x:Nat)=>fz O.2 1 (O.l.length) fun (i x:Nat)=>ah O.l i,cells false 1 fun (x:Nat)=>fn 78 0 (nth []) 5 (nth [ref 0 0,ref 1 0,ref 2 0,ref 3 0,ref 4 0]),cells false 2 (nth [int i64 p.atoms,af p.rules]),cells false (m*1) fun (a:Nat)=>fz Fz.auto 1 ((aj (L1.getD a 0)).l.length) fun (i x:Nat)=>ah (aj (L1.getD a 0)).l i])) (fun _=>by kernel_rfl) ⟨by omega,by omega,fun hcc=>(nomatch (hz.symm.trans hcc)),fun _=>⟨by omega,fun _=>⟨by omega,by omega,⟨rfl,(i1 _ _)⟩,by kernel_rfl,by omega,by omega,by omega,by omega,by omega,(fun _ _=>⟨rfl,(dG _ _ (by omega) _ _)⟩),⟨rfl,(i2 _ _)⟩,?_⟩,fun hcc=>(nomatch (hb.symm.trans hcc))⟩⟩
   refine(av (aS _ _ rfl trivial rfl rfl rfl) (yu _))
  ·have i1:=fun (R:Res) [Tab LT R] (g:R.σ)=>ih.ow R s m m1 L L1 g hs hL hmL hmm hL1 hm1 e1
   by_cases e2:m1=m'
   ·have hLL:L'=L1:=hlen2.2.2 (by omega)
    subst hLL
    subst e2
    have i2:∀(R:Res) [Tab LT R] (g:R.σ),Does Tryd.prog R 78 [.int .i64 ((k:Int)+1),.int .u64 (IntKind.u64.wrap ((BitVec.ofInt 64 (s:Int)|||BitVec.ofInt 64 ((2^(O.l.getD k 0).toNat:Nat):Int)).toNat:Int)),.ref 0 0,.ref 1 0,.ref 2 0,.ref 3 0,.ref 4 0] [.cells false 1 (fun _=>.ow true 5 m1 1),.cells false 1 (fun _=>.int .i64 most),.cells false 1 (fun _=>ag O),.cells false 1 (fun _=>.fn 78 0 (nth []) 5 (nth [.ref 0 0,.ref 1 0,.ref 2 0,.ref 3 0,.ref 4 0])),.cells false 2 (nth [.int .i64 p.atoms,af p.rules]),.cells false (m1*1) (aG L')] g (.ret (.tup 0 (nth []))) [.cells false 1 (fun _=>.ow true 5 m1 1),.cells false 1 (fun _=>.int .i64 most),.cells false 1 (fun _=>ag O),.cells false 1 (fun _=>.fn 78 0 (nth []) 5 (nth [.ref 0 0,.ref 1 0,.ref 2 0,.ref 3 0,.ref 4 0])),.cells false 2 (nth [.int .i64 p.atoms,af p.rules]),.cells false (m1*1) (aG L')] g:=fun R _ g=>by rw[hoS];exact ih.on R t m1 L' g ht24 hL1n hm1 hmm1 h
    refine dp (nt:=47) (rs:=[]) (k0:=6) (by kernel_rfl) (by kernel_rfl) (by kernel_rfl) rfl ?_
    refine vcQ [[0,1,0],[0,1,1,1,1]] (lkL [(0,[0,1,2,4,5,6,9]),(1,[0,1,2,4,5,6,14]),(2,[0,1,4,5])]) (lkL [(2,[(4,ROrc.call (tup 0 (nth [])) [cells false 1 fun (x:Nat)=>ow true 6 m1 1,cells false 1 fun (x:Nat)=>int i64 (most:Int),cells false 1 fun (x:Nat)=>ag O,cells false 1 fun (x:Nat)=>fn 78 0 (nth []) 5 (nth [ref 0 0,ref 1 0,ref 2 0,ref 3 0,ref 4 0]),cells false 2 (nth [int i64 p.atoms,af p.rules]),dead,cells false (m1*1) (aG L')] g)]),(3,[(8,ROrc.pcall (int u64 (↑(2^(O.l.getD k 0).toNat):Int))),(10,ROrc.kcall (tup 0 (nth [])))])]) (fun Q=>(fun (u1:List AObj)=>(fun (u2:List AObj)=>(fun (u3:Int)=>(fun (u4:Int)=>(fun (u5:Bool)=>1<=1/\1<=1/\(u5=true->Wp Tryd.prog R 47 6 Rd.top (aw Tryd.prog 78) [0,1,0] (aO Tryd.prog R 47 6 Rd.top (aw Tryd.prog 78) Q [Kont.blk 0]) (St.mk [(0,int i64 u4),(1,int u64 (s:Int)),(2,ref 0 0),(4,ref 2 0),(5,ref 3 0),(6,ref 4 0),(9,AV.bool u5)] u2 g))/\(u5=false->1<=1/\(decide (u4<u3)=true->1<=1/\(-9223372036854775808<=u4+1/\u4+1<=9223372036854775807)/\(true=true/\Does Tryd.prog R 78 [int i64 (u4+1),int u64 (s:Int),ref 0 0,ref 1 0,ref 2 0,ref 3 0,ref 4 0] u2 g (ret (tup 0 (nth []))) u1 g)/\Tables.follows Tryd.prog.toTables Departure.mixedOrders=true/\1<=1/\(-9223372036854775808<=u4+1/\u4+1<=9223372036854775807)/\1<=1/\(0<=u4/\u4<u3)/\1<=1/\(∀(hp:List AObj) (g:R.σ),true=true/\Does Tryd.prog R 79 [ah O.l k] hp g (ret (int u64 (↑(2^(O.l.getD k 0).toNat):Int))) hp g)/\(true=true/\Does Tryd.prog R 78 [int i64 (u4+1),int u64 (IntKind.wrap u64 (↑(BitVec.toNat (BitVec.ofInt 64 (s:Int)|||BitVec.ofInt 64 (↑(2^(O.l.getD k 0).toNat):Int))):Int)),ref 0 0,ref 1 0,ref 2 0,ref 3 0,ref 4 0] u1 g (ret (tup 0 (nth []))) u1 g)/\Q AEx.normal (St.mk [] u1 g))/\(decide (u4<u3)=false->Wp Tryd.prog R 47 6 Rd.top (aw Tryd.prog 78) [0,1,1,1,1] (aO Tryd.prog R 47 6 Rd.top (aw Tryd.prog 78) Q [Kont.blk 0]) (St.mk [(0,int i64 u4),(1,int u64 (s:Int)),(2,ref 0 0),(4,ref 2 0),(5,ref 3 0),(6,ref 4 0),(14,AV.bool (decide (u4<u3)))] u2 g)))) ((m:Int)==(most:Int))) ((k:Int))) ((O.l.length:Int))) ([cells false 1 fun (x:Nat)=>ow true 5 m 1,cells false 1 fun (x:Nat)=>int i64 (most:Int),cells false 1 fun (x:Nat)=>fz O.2 1 (O.l.length) fun (i x:Nat)=>ah O.l i,cells false 1 fun (x:Nat)=>fn 78 0 (nth []) 5 (nth [ref 0 0,ref 1 0,ref 2 0,ref 3 0,ref 4 0]),cells false 2 (nth [int i64 p.atoms,af p.rules]),cells false (m*1) fun (a:Nat)=>fz Fz.auto 1 ((aj (L.getD a 0)).l.length) fun (i x:Nat)=>ah (aj (L.getD a 0)).l i])) ([cells false 1 fun (x:Nat)=>ow true 6 m1 1,cells false 1 fun (x:Nat)=>int i64 (most:Int),cells false 1 fun (x:Nat)=>fz O.2 1 (O.l.length) fun (i x:Nat)=>ah O.l i,cells false 1 fun (x:Nat)=>fn 78 0 (nth []) 5 (nth [ref 0 0,ref 1 0,ref 2 0,ref 3 0,ref 4 0]),cells false 2 (nth [int i64 p.atoms,af p.rules]),dead,cells false (m1*1) fun (a:Nat)=>fz Fz.auto 1 ((aj (L'.getD a 0)).l.length) fun (i x:Nat)=>ah (aj (L'.getD a 0)).l i])) (fun _=>by kernel_rfl) ⟨by omega,by omega,fun hcc=>(nomatch (hz.symm.trans hcc)),fun _=>⟨by omega,fun _=>⟨by omega,by omega,⟨rfl,(i1 _ _)⟩,by kernel_rfl,by omega,by omega,by omega,by omega,by omega,(fun _ _=>⟨rfl,(dG _ _ (by omega) _ _)⟩),⟨rfl,(dQ (T:=LT) inferInstance [0,1,2,3,4,6] 7 (fun R _ g=>i2 R g) rfl rfl rfl (by exact⟨⟨rfl,Nat.le_refl _,fun j hj=>match j,hj with|0,_=>(yu _) ⟩,⟨rfl,Nat.le_refl _,fun j hj=>match j,hj with|0,_=>(yu _) ⟩,⟨rfl,Nat.le_refl _,fun j hj=>match j,hj with|0,_=>(yu _) ⟩,⟨rfl,Nat.le_refl _,fun j hj=>match j,hj with|0,_=>(Le.fn (fun i hi=>absurd hi (by omega)) (fun i hi=>match i,hi with|0,_=>(yu _)|1,_=>(yu _)|2,_=>(yu _)|3,_=>(yu _)|4,_=>(yu _) )) ⟩,⟨rfl,Nat.le_refl _,fun j hj=>match j,hj with|0,_=>(yu _)|1,_=>(yu _) ⟩,⟨rfl,Nat.le_refl _,fun j hj=>(by first|exact bj (by first|exact trivial|apply eZ)|exact yv (f9 rfl).symm)⟩,trivial⟩) (by exact⟨by omega,by omega,by omega,by omega,by omega,by omega,trivial⟩) (by exact⟨bj (by exact trivial),bj (by exact trivial),yu _,yu _,yu _,yu _,yu _,trivial⟩) (by exact bx (by exact trivial)) (by exact⟨⟨rfl,Nat.le_refl _,fun j hj=>match j,hj with|0,_=>(yu _) ⟩,⟨rfl,Nat.le_refl _,fun j hj=>match j,hj with|0,_=>(yu _) ⟩,⟨rfl,Nat.le_refl _,fun j hj=>match j,hj with|0,_=>(yu _) ⟩,⟨rfl,Nat.le_refl _,fun j hj=>match j,hj with|0,_=>(Le.fn (fun i hi=>absurd hi (by omega)) (fun i hi=>match i,hi with|0,_=>(yu _)|1,_=>(yu _)|2,_=>(yu _)|3,_=>(yu _)|4,_=>(yu _) )) ⟩,⟨rfl,Nat.le_refl _,fun j hj=>match j,hj with|0,_=>(yu _)|1,_=>(yu _) ⟩,trivial,⟨rfl,Nat.le_refl _,fun j hj=>(by first|exact bx (by first|exact trivial|apply eZ)|exact yv (f9 rfl))⟩,trivial⟩))⟩,?_⟩,fun hcc=>(nomatch (hb.symm.trans hcc))⟩⟩
    refine(av (aS _ _ rfl trivial rfl rfl rfl) (yu _))
   ·have i2:∀(R:Res) [Tab LT R] (g:R.σ),Does Tryd.prog R 78 [.int .i64 ((k:Int)+1),.int .u64 (IntKind.u64.wrap ((BitVec.ofInt 64 (s:Int)|||BitVec.ofInt 64 ((2^(O.l.getD k 0).toNat:Nat):Int)).toNat:Int)),.ref 0 0,.ref 1 0,.ref 2 0,.ref 3 0,.ref 4 0] [.cells false 1 (fun _=>.ow true 5 m1 1),.cells false 1 (fun _=>.int .i64 most),.cells false 1 (fun _=>ag O),.cells false 1 (fun _=>.fn 78 0 (nth []) 5 (nth [.ref 0 0,.ref 1 0,.ref 2 0,.ref 3 0,.ref 4 0])),.cells false 2 (nth [.int .i64 p.atoms,af p.rules]),.cells false (m1*1) (aG L1)] g (.ret (.tup 0 (nth []))) [.cells false 1 (fun _=>.ow true 6 m' 1),.cells false 1 (fun _=>.int .i64 most),.cells false 1 (fun _=>ag O),.cells false 1 (fun _=>.fn 78 0 (nth []) 5 (nth [.ref 0 0,.ref 1 0,.ref 2 0,.ref 3 0,.ref 4 0])),.cells false 2 (nth [.int .i64 p.atoms,af p.rules]),.dead,.cells false (m'*1) (aG L')] g:=fun R _ g=>by rw[hoS];exact ih.ow R t m1 m' L1 L' g ht24 hL1n hm1 hmm1 h hm' e2
    refine dp (nt:=47) (rs:=[]) (k0:=6) (by kernel_rfl) (by kernel_rfl) (by kernel_rfl) rfl ?_
    refine vcQ [[0,1,0],[0,1,1,1,1]] (lkL [(0,[0,1,2,4,5,6,9]),(1,[0,1,2,4,5,6,14]),(2,[0,1,4,5])]) (lkL [(2,[(4,ROrc.call (tup 0 (nth [])) [cells false 1 fun (x:Nat)=>ow true 6 m1 1,cells false 1 fun (x:Nat)=>int i64 (most:Int),cells false 1 fun (x:Nat)=>ag O,cells false 1 fun (x:Nat)=>fn 78 0 (nth []) 5 (nth [ref 0 0,ref 1 0,ref 2 0,ref 3 0,ref 4 0]),cells false 2 (nth [int i64 p.atoms,af p.rules]),dead,cells false (m1*1) (aG L1)] g)]),(3,[(8,ROrc.pcall (int u64 (↑(2^(O.l.getD k 0).toNat):Int))),(10,ROrc.callN (tup 0 (nth [])) [(0,cells false 1 fun (j:Nat)=>ow true 7 m' 1),(6,dead)] [cells false (m'*1) (aG L')] g)])]) (fun Q=>(fun (u1:List AObj)=>(fun (u2:List AObj)=>(fun (u3:List AObj)=>(fun (u4:Int)=>(fun (u5:Int)=>(fun (u6:Bool)=>1<=1/\1<=1/\(u6=true->Wp Tryd.prog R 47 6 Rd.top (aw Tryd.prog 78) [0,1,0] (aO Tryd.prog R 47 6 Rd.top (aw Tryd.prog 78) Q [Kont.blk 0]) (St.mk [(0,int i64 u5),(1,int u64 (s:Int)),(2,ref 0 0),(4,ref 2 0),(5,ref 3 0),(6,ref 4 0),(9,AV.bool u6)] u1 g))/\(u6=false->1<=1/\(decide (u5<u4)=true->1<=1/\(-9223372036854775808<=u5+1/\u5+1<=9223372036854775807)/\(true=true/\Does Tryd.prog R 78 [int i64 (u5+1),int u64 (s:Int),ref 0 0,ref 1 0,ref 2 0,ref 3 0,ref 4 0] u1 g (ret (tup 0 (nth []))) u3 g)/\Tables.follows Tryd.prog.toTables Departure.mixedOrders=true/\1<=1/\(-9223372036854775808<=u5+1/\u5+1<=9223372036854775807)/\1<=1/\(0<=u5/\u5<u4)/\1<=1/\(∀(hp:List AObj) (g:R.σ),true=true/\Does Tryd.prog R 79 [ah O.l k] hp g (ret (int u64 (↑(2^(O.l.getD k 0).toNat):Int))) hp g)/\(true=true/\Does Tryd.prog R 78 [int i64 (u5+1),int u64 (IntKind.wrap u64 (↑(BitVec.toNat (BitVec.ofInt 64 (s:Int)|||BitVec.ofInt 64 (↑(2^(O.l.getD k 0).toNat):Int))):Int)),ref 0 0,ref 1 0,ref 2 0,ref 3 0,ref 4 0] u3 g (ret (tup 0 (nth []))) u2 g)/\Q AEx.normal (St.mk [] u2 g))/\(decide (u5<u4)=false->Wp Tryd.prog R 47 6 Rd.top (aw Tryd.prog 78) [0,1,1,1,1] (aO Tryd.prog R 47 6 Rd.top (aw Tryd.prog 78) Q [Kont.blk 0]) (St.mk [(0,int i64 u5),(1,int u64 (s:Int)),(2,ref 0 0),(4,ref 2 0),(5,ref 3 0),(6,ref 4 0),(14,AV.bool (decide (u5<u4)))] u1 g)))) ((m:Int)==(most:Int))) ((k:Int))) ((O.l.length:Int))) ([cells false 1 fun (x:Nat)=>ow true 6 m1 1,cells false 1 fun (x:Nat)=>int i64 (most:Int),cells false 1 fun (x:Nat)=>fz O.2 1 (O.l.length) fun (i x:Nat)=>ah O.l i,cells false 1 fun (x:Nat)=>fn 78 0 (nth []) 5 (nth [ref 0 0,ref 1 0,ref 2 0,ref 3 0,ref 4 0]),cells false 2 (nth [int i64 p.atoms,af p.rules]),dead,cells false (m1*1) fun (a:Nat)=>fz Fz.auto 1 ((aj (L1.getD a 0)).l.length) fun (i x:Nat)=>ah (aj (L1.getD a 0)).l i])) ([cells false 1 fun (j:Nat)=>ow true 7 m' 1,cells false 1 fun (x:Nat)=>int i64 (most:Int),cells false 1 fun (x:Nat)=>fz O.2 1 (O.l.length) fun (i x:Nat)=>ah O.l i,cells false 1 fun (x:Nat)=>fn 78 0 (nth []) 5 (nth [ref 0 0,ref 1 0,ref 2 0,ref 3 0,ref 4 0]),cells false 2 (nth [int i64 p.atoms,af p.rules]),dead,dead,cells false (m'*1) fun (a:Nat)=>fz Fz.auto 1 ((aj (L'.getD a 0)).l.length) fun (i x:Nat)=>ah (aj (L'.getD a 0)).l i])) ([cells false 1 fun (x:Nat)=>ow true 5 m 1,cells false 1 fun (x:Nat)=>int i64 (most:Int),cells false 1 fun (x:Nat)=>fz O.2 1 (O.l.length) fun (i x:Nat)=>ah O.l i,cells false 1 fun (x:Nat)=>fn 78 0 (nth []) 5 (nth [ref 0 0,ref 1 0,ref 2 0,ref 3 0,ref 4 0]),cells false 2 (nth [int i64 p.atoms,af p.rules]),cells false (m*1) fun (a:Nat)=>fz Fz.auto 1 ((aj (L.getD a 0)).l.length) fun (i x:Nat)=>ah (aj (L.getD a 0)).l i])) (fun _=>by kernel_rfl) ⟨by omega,by omega,fun hcc=>(nomatch (hz.symm.trans hcc)),fun _=>⟨by omega,fun _=>⟨by omega,by omega,⟨rfl,(i1 _ _)⟩,by kernel_rfl,by omega,by omega,by omega,by omega,by omega,(fun _ _=>⟨rfl,(dG _ _ (by omega) _ _)⟩),⟨rfl,(dQ (T:=LT) inferInstance [0,1,2,3,4,6] 7 (fun R _ g=>i2 R g) rfl rfl rfl (by exact⟨⟨rfl,Nat.le_refl _,fun j hj=>match j,hj with|0,_=>(yu _) ⟩,⟨rfl,Nat.le_refl _,fun j hj=>match j,hj with|0,_=>(yu _) ⟩,⟨rfl,Nat.le_refl _,fun j hj=>match j,hj with|0,_=>(yu _) ⟩,⟨rfl,Nat.le_refl _,fun j hj=>match j,hj with|0,_=>(Le.fn (fun i hi=>absurd hi (by omega)) (fun i hi=>match i,hi with|0,_=>(yu _)|1,_=>(yu _)|2,_=>(yu _)|3,_=>(yu _)|4,_=>(yu _) )) ⟩,⟨rfl,Nat.le_refl _,fun j hj=>match j,hj with|0,_=>(yu _)|1,_=>(yu _) ⟩,⟨rfl,Nat.le_refl _,fun j hj=>(by first|exact bj (by first|exact trivial|apply eZ)|exact yv (f9 rfl).symm)⟩,trivial⟩) (by exact⟨by omega,by omega,by omega,by omega,by omega,by omega,trivial⟩) (by exact⟨bj (by exact trivial),bj (by exact trivial),yu _,yu _,yu _,yu _,yu _,trivial⟩) (by exact bx (by exact trivial)) (by exact⟨yw,⟨rfl,Nat.le_refl _,fun j hj=>match j,hj with|0,_=>(yu _) ⟩,⟨rfl,Nat.le_refl _,fun j hj=>match j,hj with|0,_=>(yu _) ⟩,⟨rfl,Nat.le_refl _,fun j hj=>match j,hj with|0,_=>(Le.fn (fun i hi=>absurd hi (by omega)) (fun i hi=>match i,hi with|0,_=>(yu _)|1,_=>(yu _)|2,_=>(yu _)|3,_=>(yu _)|4,_=>(yu _) )) ⟩,⟨rfl,Nat.le_refl _,fun j hj=>match j,hj with|0,_=>(yu _)|1,_=>(yu _) ⟩,trivial,trivial,⟨rfl,Nat.le_refl _,fun j hj=>(by first|exact bx (by first|exact trivial|apply eZ)|exact yv (f9 rfl))⟩,trivial⟩))⟩,?_⟩,fun hcc=>(nomatch (hb.symm.trans hcc))⟩⟩
    refine la (.tup 0 (nth [])) _ rfl trivial ?_
    refine dP [0,1,2,3,4,5,7] 8 ?_ ?_ ?_ ?_ ?_ ?_ ?_
    ·rfl
    ·rfl
    ·rfl
    ·rfl
    ·rfl
    ·exact⟨yu _,trivial⟩
    ·exact⟨⟨rfl,Nat.le_refl _,fun j hj=>yu _⟩,yx _,yx _,⟨rfl,Nat.le_refl _,fun j hj=>lb⟩,⟨rfl,Nat.le_refl _,fun j hj=>match j,hj with|0,_=>yu _|1,_=>bj (by exact trivial)⟩,trivial,⟨rfl,Nat.le_refl _,fun j hj=>yu _⟩,trivial⟩
def dx (p:Prg):Nat:=aB (ak p).2 3 p.atoms.toNat
def gu (p:Prg):Nat:=aB (ak p).2 2 p.atoms.toNat
def stP (p:Prg)(most:Nat):List Nat:=stF p most (bo (dx p)) (gu p) []
theorem nr {p:Prg}{most:Nat}{O:KL Int}(hm:1<=most/\most<=100)(hO:O.l.length<=10)(hOa:∀a,a∈O.l->0<=a/\a<24)(hl:p.rules.l.length<1000000)(hr:∀r,r∈p.rules.l->aK r):∀(j k:Nat),k+j=O.l.length->FromC p most O (O.l.drop k) (k:Int)
 |0,k,h=>by
  have hk:k=O.l.length:=by omega
  subst hk
  rw[List.drop_length]
  exact xC hm hO hl hr
 |j+1,k,h=>by
  rw[gc O.l 0 (show k<O.l.length by omega)]
  exact xD hm hO omg (hOa _ (bX O.l 0 omg)) (nr hm hO hOa hl hr j (k+1) omg)
theorem xE (R:Res)(p:Prg)(most:Int)(hgl : -1000000<=p.atoms/\p.atoms<=1000000)(hs:d9 p)(h:(aJ p&&decide (1<=most/\most<=100))=false)(hp:List AObj)(g:R.σ):Does Tryd.prog R 27 [aq p,.int .i64 most] hp g (.ret (.tup 2 (nth [.fz .nil 0 0 (fun _ _=>.any),.int .i64 2]))) hp g:=by
 refine bW (fun R g=>?_) (by exact⟨⟨⟨trivial,trivial⟩,trivial⟩,trivial,trivial⟩) R hp g
 refine spW (nt:=45) (rs:=[.tmp 4,.tmp 5]) (k0:=0) ?_
 have hc:(bif ((if aJ p then(0:Int) else 2) != 0) then true else !decide (1<=most/\most<=100))=true:=by
  cases hb:aJ p with
  |false=>rfl
  |true=>
   rw[hb,Bool.true_and] at h
   rw[h]
   rfl
 refine vcR [[1,0,1,1]] (lkL [(0,[2,3]),(1,[2,3,18]),(2,[4,5])]) (lkL [(1,[(1,ROrc.pcall (int i64 (if aJ p=true then 0 else 2))),(5,ROrc.pcall (AV.bool (decide (1<=most/\most<=100))))])]) (fun Q=>(fun (u1:Bool)=>(fun (u2:List AObj)=>(fun (u3:Int)=>2<=2/\(∀(hp:List AObj) (g:R.σ),true=true/\Does Tryd.prog R 16 [aq p] hp g (ret (int i64 u3)) hp g)/\((!u3 != 0)=true->1<=1)/\((!u3 != 0)=true->∀(hp:List AObj) (g:R.σ),true=true/\Does Tryd.prog R 58 [int i64 most,int i64 1,int i64 100] hp g (ret (AV.bool (decide (1<=most/\most<=100)))) hp g)/\(u1=true->Q AEx.ret (St.mk [(4,fz Fz.nil 0 0 fun x x_1=>any),(5,int i64 2)] u2 g))/\(u1=false->WpC Tryd.prog R 45 0 27 [1,0,1,1] Q [Kont.seq [1,1]] (St.mk [(2,ref 0 0),(3,ref 1 0),(18,AV.bool u1)] u2 g))) (if aJ p=true then 0 else 2)) ([cells false 2 (nth [int i64 p.atoms,af p.rules]),cells false 1 fun a=>int i64 most])) (bif (if aJ p=true then 0 else 2) != 0 then true else !decide (1<=most/\most<=100))) ⟨omg,(fun _ _=>⟨rfl,(e8 _ _ _ _ omg)⟩),omg,(fun hgd=>(fun _ _=>⟨rfl,(cK _ _ _ _ _ _)⟩)),fun _=>?_,fun hcc=>(nomatch (hc.symm.trans hcc))⟩
 refine(av (cu _ _ rfl trivial ⟨⟨trivial,trivial⟩,trivial⟩ rfl) (yu _))
theorem rt {s:Nat}:∀a,a∈(aj s).l->0<=a/\a<24:=by
 intro a ha
 obtain⟨b,hb,rfl⟩:=List.mem_map.1 (show a∈(ai s).map (fun (a:Nat)=>(a:Int)) from ha)
 have:=jk hb
 omega
theorem xF (R:Res)[Tab LT R](p:Prg)(most:Nat)(hb:aJ p=true)(hm:1<=most/\most<=100)(hO:(bo (dx p)).length<=10)(hN:stP p most=[])(g:R.σ):Does Tryd.prog R 27 [aq p,.int .i64 most] [] g (.ret (.tup 2 (nth [.fz .nil 0 0 (fun _ _=>.any),.int .i64 0]))) [] g:=by
 obtain⟨hl,hr,hp,hh,hx⟩:=fe hb
 have hs:d9 p:=ff hb
 have hp':1<=p.atoms/\p.atoms<=24:=hp
 have hc:(bif ((if aJ p then(0:Int) else 2) != 0) then true else !decide (1<=(most:Int)/\(most:Int)<=100))=false:=by
  rw[hb,decide_eq_true (by omega)]
  rfl
 have hD:=fun (R:Res) [Tab LT R] (g:R.σ)=>m8 R p hl hr hp hh g
 have hC:=fun (R:Res) [Tab LT R] (s:Nat) (hs:s<2^24) (g:R.σ)=>g6 R s hs g
 have hlt:aB (ak p).2 3 p.atoms.toNat<2^24:=jl (by omega)
 have hS:=fun (R:Res) (g:R.σ)=>kZ R (ak p).2 p.atoms 3 (by omega) g
 have hS2:=fun (R:Res) (g:R.σ)=>kZ R (ak p).2 p.atoms 2 (by omega) g
 have hgt:decide ((10:Int)<((aj (aB (ak p).2 3 p.atoms.toNat)).l.length:Int))=false:=decide_eq_false (by
  have hO:(aj (aB (ak p).2 3 p.atoms.toNat)).l.length<=10:=hO
  omega)
 have hF0:=(nr (p:=p) (most:=most) (O:=aj (dx p)) hm hO rt hl hr (aj (dx p)).l.length 0 (by omega)).nn
 rw[List.drop_zero] at hF0
 have hF:=fun (R:Res) [Tab LT R] (g:R.σ)=>hF0 R (gu p) g (jl (by omega)) hN
 unfold gu dx at hF
 clear hF0
 refine dp (nt:=45) (rs:=[.tmp 4,.tmp 5]) (k0:=0) (by kernel_rfl) (by kernel_rfl) (by kernel_rfl) rfl ?_
 refine vcQ [[1,0,1,0],[1,1,1,1,0,1,0]] (lkL [(0,[2,3]),(1,[2,3,18]),(3,[2,3,7]),(4,[2,3,7,8]),(5,[2,3,7,8,34]),(7,[2,3,7,8,9]),(8,[2,3,7,8,9,10]),(9,[2,7,9,10]),(10,[9]),(11,[4,5])]) (lkL [(1,[(1,ROrc.pcall (int i64 (if aJ p=true then 0 else 2))),(5,ROrc.pcall (AV.bool (decide (1<=(most:Int)/\(most:Int)<=100))))]),(3,[(1,ROrc.call (tup 2 (nth [fz Fz.auto 2 ((bB (ak p).fst).l.length) fun (i:Nat)=>e7 ((bB (ak p).fst).l.getD i default),ref 2 0])) [cells false 2 (nth [int i64 p.atoms,af p.rules]),cells false 1 fun (a:Nat)=>int i64 (most:Int),cells false 27 (aH (ak p).snd)] g)]),(4,[(5,ROrc.lcall (int u64 (↑(aB (ak p).snd 3 (p.atoms.toNat)):Int)) [2]),(6,ROrc.callN (fn 105 0 (nth []) 1 (nth [ref (List.length [cells false 2 (nth [int i64 p.atoms,af p.rules]),cells false 1 fun (a:Nat)=>int i64 (most:Int),cells false 27 (aH (ak p).snd)]) 0])) [] [cells false 1 fun (x:Nat)=>int u64 (↑(aB (ak p).snd 3 (p.atoms.toNat)):Int)] g),(7,ROrc.callS (fz Fz.auto 1 ((aj (aB (ak p).snd 3 (p.atoms.toNat))).l.length) fun (i x:Nat)=>ah (aj (aB (ak p).snd 3 (p.atoms.toNat))).l i) [(3,cells false 1 fun (j:Nat)=>any)] g),(9,ROrc.val (Orc.obj (nth [fz Fz.auto 1 ((aj (aB (ak p).snd 3 (p.atoms.toNat))).l.length) fun (i x:Nat)=>ah (aj (aB (ak p).snd 3 (p.atoms.toNat))).l i])))]),(9,[(1,ROrc.val (Orc.obj (nth [fn 78 0 (nth []) 5 (nth [ref 5 0,ref 1 0,ref 4 0,ref 6 0,ref 0 0])])))]),(10,[(6,ROrc.lcall (int u64 (↑(aB (ak p).snd 2 (p.atoms.toNat)):Int)) [2]),(7,ROrc.kcall (tup 0 (nth [])))])]) (fun Q=>(fun (u1:List AObj)=>(fun (u2:Nat)=>(fun (u3:Int)=>(fun (u4:AObj)=>(fun (u5:AObj)=>(fun (u6:AV)=>(fun (u7:AObj)=>(fun (u8:Bool)=>(fun (u9:Int)=>(fun (u10:List AV)=>(fun (u11:AV)=>(fun (u12:List AObj)=>(fun (u13:Int)=>2<=2/\(∀(hp:List AObj) (g:R.σ),true=true/\Does Tryd.prog R 16 [aq p] hp g (ret (int i64 u13)) hp g)/\((!u13 != 0)=true->1<=1)/\((!u13 != 0)=true->∀(hp:List AObj) (g:R.σ),true=true/\Does Tryd.prog R 58 [int i64 u3,int i64 1,int i64 100] hp g (ret (AV.bool (decide (1<=u3/\u3<=100)))) hp g)/\(u8=true->Wp Tryd.prog R 45 0 Rd.top (aw Tryd.prog 27) [1,0,1,0] (aO Tryd.prog R 45 0 Rd.top (aw Tryd.prog 27) Q [Kont.seq [1,1]]) (St.mk [(2,ref 0 0),(3,ref 1 0),(18,AV.bool u8)] [u4,u5] g))/\(u8=false->2<=2/\(true=true/\Does Tryd.prog R 60 [aq p] [u4,u5] g (ret (tup 2 (nth [fz Fz.auto 2 ((bB (ak p).fst).l.length) fun (i:Nat)=>e7 ((bB (ak p).fst).l.getD i default),ref 2 0]))) [u4,u5,u7] g)/\Tables.follows Tryd.prog.toTables Departure.mixedOrders=true/\1<=2/\(∀(hp':List AObj) (g':R.σ),SameO [2] [u4,u5,u7] hp'->true=true/\Does Tryd.prog R 76 [ref 2 2,int i64 p.atoms,int i64 3] hp' g' (ret (int u64 (u2:Int))) hp' g')/\(true=true/\Does Tryd.prog R 77 [int u64 (u2:Int)] [u4,u5,u7] g (ret (fn 105 0 (nth []) 1 (nth [ref 3 0]))) u12 g)/\(true=true/\Does Tryd.prog R 75 [fn 105 0 (nth []) 1 (nth [ref 3 0])] u12 g (ret u6) [u4,u5,u7,cells false 1 fun (j:Nat)=>any] g)/\1<=1/\(∀(c:Nat),c<1->nth [u6] c=al (fun (a:Nat)=>fz Fz.nil 0 0 fun _ _=>any) 0 1 (fun (x:Nat)=>u6) c)/\1<=1/\(decide (u9 > 10)=true->Wp Tryd.prog R 45 0 Rd.top (aw Tryd.prog 27) [1,1,1,1,0,1,0] (aO Tryd.prog R 45 0 Rd.top (aw Tryd.prog 27) Q [Kont.seq [1,1,1,1,1]]) (St.mk [(2,ref 0 0),(3,ref 1 0),(7,ref 2 0),(8,ref 4 0),(34,AV.bool (decide (u9 > 10)))] [u4,u5,u7,cells false 1 fun (j:Nat)=>any,cells false 1 (nth [u6])] g))/\(decide (u9 > 10)=false->1<=1/\(∀(c:Nat),c<1->nth [fn 78 0 (nth []) 5 (nth u10)] c=al (fun (a:Nat)=>AV.nilf) 0 1 (fun (x:Nat)=>fn 78 0 (nth []) 5 (nth u10)) c)/\Tables.follows Tryd.prog.toTables Departure.mixedOrders=true/\1<=1/\1<=2/\(∀(hp':List AObj) (g':R.σ),SameO [2] u1 hp'->true=true/\Does Tryd.prog R 76 [ref 2 2,int i64 p.atoms,int i64 2] hp' g' (ret u11) hp' g')/\(true=true/\Does Tryd.prog R 78 (int i64 0::u11::u10) u1 g (ret (tup 0 (nth []))) u1 g)/\1<=1/\Q AEx.ret (St.mk [(4,fz Fz.nil 0 0 fun _ _=>any),(5,int i64 0)] u1 g)))) (if aJ p=true then 0 else 2)) ([u4,u5,u7,cells false 1 fun (x:Nat)=>int u64 (u2:Int)])) (int u64 (↑(aB (ak p).snd 2 (p.atoms.toNat)):Int))) ([ref 5 0,ref 1 0,ref 4 0,ref 6 0,ref 0 0])) ((↑((aj u2).l.length):Int))) (bif (if aJ p=true then 0 else 2) != 0 then true else !decide (1<=u3/\u3<=100))) (cells false 27 (aH (ak p).snd))) (fz Fz.auto 1 ((aj u2).l.length) fun (i x:Nat)=>ah (aj u2).l i)) (cells false 1 fun (a:Nat)=>int i64 u3)) (cells false 2 (nth [int i64 p.atoms,af p.rules]))) ((most:Int))) (aB (ak p).snd 3 (p.atoms.toNat))) ([cells false 2 (nth [int i64 p.atoms,af p.rules]),cells false 1 fun (a:Nat)=>int i64 (most:Int),cells false 27 (aH (ak p).snd),cells false 1 fun (j:Nat)=>any,cells false 1 (nth [fz Fz.auto 1 ((aj (aB (ak p).snd 3 (p.atoms.toNat))).l.length) fun (i x:Nat)=>ah (aj (aB (ak p).snd 3 (p.atoms.toNat))).l i]),cells false 1 fun (a:Nat)=>fz Fz.nil 0 0 fun _ _=>any,cells false 1 (nth [fn 78 0 (nth []) 5 (nth [ref 5 0,ref 1 0,ref 4 0,ref 6 0,ref 0 0])])])) (fun _=>by kernel_rfl) ⟨by omega,(fun _ _=>⟨rfl,(e8 _ _ _ _ (by omega))⟩),by omega,(fun hgd=>(fun _ _=>⟨rfl,(cK _ _ _ _ _ _)⟩)),fun hcc=>(nomatch (hc.symm.trans hcc)),fun _=>⟨by omega,⟨rfl,(dQ (T:=LT) inferInstance [] 2 (fun R _ g=>hD R g) rfl rfl rfl (by exact trivial) (by exact trivial) (by exact⟨bj (by exact⟨⟨trivial,trivial⟩,trivial⟩),trivial⟩) (by exact(yy (fun i hi=>match i,hi with|0,_=>(yu _)|1,_=>(yu _) ))) (by exact⟨yw,yw,⟨rfl,Nat.le_refl _,fun j hj=>(by first|exact bx (by first|exact trivial|apply kj)|exact yv (cT rfl))⟩,trivial⟩))⟩,by kernel_rfl,by omega,?_,⟨rfl,(cx _ _ _ _)⟩,⟨rfl,(dQ (T:=LT) inferInstance [3] 4 (fun R _ g=>hC R (aB (ak p).snd 3 (p.atoms.toNat)) (by omega) g) rfl rfl rfl (by exact⟨⟨rfl,Nat.le_refl _,fun j hj=>match j,hj with|0,_=>(yu _) ⟩,trivial⟩) (by exact⟨by omega,trivial⟩) (by exact⟨(Le.fn (fun i hi=>absurd hi (by omega)) (fun i hi=>match i,hi with|0,_=>(yu _) )),trivial⟩) (by exact bx (by exact trivial)) (by exact⟨yw,yw,yw,yw,trivial⟩))⟩,by omega,(fun c hc=>match c,hc with|0,_=>(by kernel_rfl) ),by omega,fun hcc=>(nomatch (hgt.symm.trans hcc)),fun _=>⟨by omega,(fun c hc=>match c,hc with|0,_=>(by kernel_rfl) ),by kernel_rfl,by omega,by omega,?_,⟨rfl,(dQ (T:=LT) inferInstance [5,1,4,6,0] 7 (fun R _ g=>hF R g) rfl rfl rfl (by exact⟨⟨rfl,Nat.le_refl _,fun j hj=>match j,hj with|0,_=>(yu _) ⟩,⟨rfl,Nat.le_refl _,fun j hj=>match j,hj with|0,_=>(yu _) ⟩,⟨rfl,Nat.le_refl _,fun j hj=>match j,hj with|0,_=>(yu _) ⟩,⟨rfl,Nat.le_refl _,fun j hj=>match j,hj with|0,_=>(Le.fn (fun i hi=>absurd hi (by omega)) (fun i hi=>match i,hi with|0,_=>(yu _)|1,_=>(yu _)|2,_=>(yu _)|3,_=>(yu _)|4,_=>(yu _) )) ⟩,⟨rfl,Nat.le_refl _,fun j hj=>match j,hj with|0,_=>(yu _)|1,_=>(yu _) ⟩,trivial⟩) (by exact⟨by omega,by omega,by omega,by omega,by omega,trivial⟩) (by exact⟨bj (by exact trivial),bj (by exact trivial),yu _,yu _,yu _,yu _,yu _,trivial⟩) (by exact bx (by exact trivial)) (by exact⟨⟨rfl,Nat.le_refl _,fun j hj=>match j,hj with|0,_=>(yu _)|1,_=>(yu _) ⟩,⟨rfl,Nat.le_refl _,fun j hj=>match j,hj with|0,_=>(yu _) ⟩,yw,yw,⟨rfl,Nat.le_refl _,fun j hj=>match j,hj with|0,_=>(yu _) ⟩,⟨rfl,Nat.le_refl _,fun j hj=>match j,hj with|0,_=>(yu _) ⟩,⟨rfl,Nat.le_refl _,fun j hj=>match j,hj with|0,_=>(Le.fn (fun i hi=>absurd hi (by omega)) (fun i hi=>match i,hi with|0,_=>(yu _)|1,_=>(yu _)|2,_=>(yu _)|3,_=>(yu _)|4,_=>(yu _) )) ⟩,trivial⟩))⟩,by omega,?_⟩⟩⟩
 ·intro hp' g' hs'
  exact⟨rfl,iZ [2] (fun R g=>hS R g) (by exact⟨rfl,trivial⟩) rfl (by exact fun n=>⟨yE (fun j hj=>(cT trivial).symm),trivial⟩) ⟨by omega,trivial⟩ (by exact fun n=>⟨yu _,yu _,yu _,trivial⟩) rfl (by exact fun n=>yu _) (by exact fun n=>⟨yE (fun j hj=>cT trivial),trivial⟩) hp' g' hs'⟩
 ·intro hp' g' hs'
  exact⟨rfl,iZ [2] (fun R g=>hS2 R g) (by exact⟨rfl,trivial⟩) rfl (by exact fun n=>⟨yE (fun j hj=>(cT trivial).symm),trivial⟩) ⟨by omega,trivial⟩ (by exact fun n=>⟨yu _,yu _,yu _,trivial⟩) rfl (by exact fun n=>yu _) (by exact fun n=>⟨yE (fun j hj=>cT trivial),trivial⟩) hp' g' hs'⟩
 ·refine(av (cu _ _ rfl trivial ⟨⟨trivial,trivial⟩,trivial⟩ rfl) (yu _))
theorem xG (R:Res)[Tab LT R](p:Prg)(most:Nat)(hb:aJ p=true)(hm:1<=most/\most<=100)(hO:(bo (dx p)).length<=10)(hN:stP p most≠[])(g:R.σ):Does Tryd.prog R 27 [aq p,.int .i64 most] [] g (.ret (.tup 2 (nth [cw (stP p most).length (fun i=>aj ((stP p most).getD i 0)),.int .i64 0]))) [] g:=by
 obtain⟨hl,hr,hp,hh,hx⟩:=fe hb
 have hs:d9 p:=ff hb
 have hp':1<=p.atoms/\p.atoms<=24:=hp
 have hc:(bif ((if aJ p then(0:Int) else 2) != 0) then true else !decide (1<=(most:Int)/\(most:Int)<=100))=false:=by
  rw[hb,decide_eq_true (by omega)]
  rfl
 have hD:=fun (R:Res) [Tab LT R] (g:R.σ)=>m8 R p hl hr hp hh g
 have hC:=fun (R:Res) [Tab LT R] (s:Nat) (hs:s<2^24) (g:R.σ)=>g6 R s hs g
 have hlt:aB (ak p).2 3 p.atoms.toNat<2^24:=jl (by omega)
 have hS:=fun (R:Res) (g:R.σ)=>kZ R (ak p).2 p.atoms 3 (by omega) g
 have hS2:=fun (R:Res) (g:R.σ)=>kZ R (ak p).2 p.atoms 2 (by omega) g
 have hgt:decide ((10:Int)<((aj (aB (ak p).2 3 p.atoms.toNat)).l.length:Int))=false:=decide_eq_false (by
  have hO:(aj (aB (ak p).2 3 p.atoms.toNat)).l.length<=10:=hO
  omega)
 obtain⟨L,hL⟩:∃L,stP p most=L:=⟨_,rfl⟩
 rw[hL] at hN ⊢
 obtain⟨m,hm0⟩:∃m,m=L.length:=⟨_,rfl⟩
 have hmm:m<=100:=by
  have:=(el (p:=p) (most:=most) (r:=bo (dx p)) (s:=gu p) (out:=[]) (Nat.zero_le _)).2.1
  have hL':stF p most (bo (dx p)) (gu p) []=L:=hL
  rw[hL'] at this
  omega
 have hF0:=(nr (p:=p) (most:=most) (O:=aj (dx p)) hm hO rt hl hr (aj (dx p)).l.length 0 (by omega)).nw
 rw[List.drop_zero] at hF0
 have hF:=fun (R:Res) [Tab LT R] (g:R.σ)=>hF0 R (gu p) m L g (jl (by omega)) hL hN hm0
 unfold gu dx at hF
 clear hF0
 refine dp (nt:=45) (rs:=[.tmp 4,.tmp 5]) (k0:=0) (by kernel_rfl) (by kernel_rfl) (by kernel_rfl) rfl ?_
 refine vcQ [[1,0,1,0],[1,1,1,1,0,1,0]] (lkL [(0,[2,3]),(1,[2,3,18]),(3,[2,3,7]),(4,[2,3,7,8]),(5,[2,3,7,8,34]),(7,[2,3,7,8,9]),(8,[2,3,7,8,9,10]),(9,[2,7,9,10]),(10,[9]),(11,[4,5])]) (lkL [(1,[(1,ROrc.pcall (int i64 (if aJ p=true then 0 else 2))),(5,ROrc.pcall (AV.bool (decide (1<=(most:Int)/\(most:Int)<=100))))]),(3,[(1,ROrc.call (tup 2 (nth [fz Fz.auto 2 ((bB (ak p).fst).l.length) fun (i:Nat)=>e7 ((bB (ak p).fst).l.getD i default),ref 2 0])) [cells false 2 (nth [int i64 p.atoms,af p.rules]),cells false 1 fun (a:Nat)=>int i64 (most:Int),cells false 27 (aH (ak p).snd)] g)]),(4,[(5,ROrc.lcall (int u64 (↑(aB (ak p).snd 3 (p.atoms.toNat)):Int)) [2]),(6,ROrc.callN (fn 105 0 (nth []) 1 (nth [ref (List.length [cells false 2 (nth [int i64 p.atoms,af p.rules]),cells false 1 fun (a:Nat)=>int i64 (most:Int),cells false 27 (aH (ak p).snd)]) 0])) [] [cells false 1 fun (x:Nat)=>int u64 (↑(aB (ak p).snd 3 (p.atoms.toNat)):Int)] g),(7,ROrc.callS (fz Fz.auto 1 ((aj (aB (ak p).snd 3 (p.atoms.toNat))).l.length) fun (i x:Nat)=>ah (aj (aB (ak p).snd 3 (p.atoms.toNat))).l i) [(3,cells false 1 fun (j:Nat)=>any)] g),(9,ROrc.val (Orc.obj (nth [fz Fz.auto 1 ((aj (aB (ak p).snd 3 (p.atoms.toNat))).l.length) fun (i x:Nat)=>ah (aj (aB (ak p).snd 3 (p.atoms.toNat))).l i])))]),(9,[(1,ROrc.val (Orc.obj (nth [fn 78 0 (nth []) 5 (nth [ref 5 0,ref 1 0,ref 4 0,ref 6 0,ref 0 0])])))]),(10,[(6,ROrc.lcall (int u64 (↑(aB (ak p).snd 2 (p.atoms.toNat)):Int)) [2]),(7,ROrc.callN (tup 0 (nth [])) [(5,cells false 1 fun (j:Nat)=>ow true 7 m 1)] [cells false (m*1) (aG L)] g)])]) (fun Q=>(fun (u1:AV)=>(fun (u2:AObj)=>(fun (u3:AObj)=>(fun (u4:List AObj)=>(fun (u5:Int)=>(fun (u6:Int)=>(fun (u7:List AObj)=>(fun (u8:AObj)=>(fun (u9:Bool)=>(fun (u10:AV)=>(fun (u11:List AV)=>(fun (u12:AV)=>(fun (u13:Int)=>2<=2/\(∀(hp:List AObj) (g:R.σ),true=true/\Does Tryd.prog R 16 [aq p] hp g (ret (int i64 u13)) hp g)/\((!u13 != 0)=true->1<=1)/\((!u13 != 0)=true->∀(hp:List AObj) (g:R.σ),true=true/\Does Tryd.prog R 58 [int i64 u6,int i64 1,int i64 100] hp g (ret (AV.bool (decide (1<=u6/\u6<=100)))) hp g)/\(u9=true->Wp Tryd.prog R 45 0 Rd.top (aw Tryd.prog 27) [1,0,1,0] (aO Tryd.prog R 45 0 Rd.top (aw Tryd.prog 27) Q [Kont.seq [1,1]]) (St.mk [(2,ref 0 0),(3,ref 1 0),(18,AV.bool u9)] [u2,u3] g))/\(u9=false->2<=2/\(true=true/\Does Tryd.prog R 60 [aq p] [u2,u3] g (ret (tup 2 (nth [fz Fz.auto 2 ((bB (ak p).fst).l.length) fun (i:Nat)=>e7 ((bB (ak p).fst).l.getD i default),ref 2 0]))) [u2,u3,u8] g)/\Tables.follows Tryd.prog.toTables Departure.mixedOrders=true/\1<=2/\(∀(hp':List AObj) (g':R.σ),SameO [2] [u2,u3,u8] hp'->true=true/\Does Tryd.prog R 76 [ref 2 2,int i64 p.atoms,int i64 3] hp' g' (ret u10) hp' g')/\(true=true/\Does Tryd.prog R 77 [u10] [u2,u3,u8] g (ret (fn 105 0 (nth []) 1 (nth [ref 3 0]))) [u2,u3,u8,cells false 1 fun (x:Nat)=>u10] g)/\(true=true/\Does Tryd.prog R 75 [fn 105 0 (nth []) 1 (nth [ref 3 0])] [u2,u3,u8,cells false 1 fun (x:Nat)=>u10] g (ret u1) [u2,u3,u8,cells false 1 fun (j:Nat)=>any] g)/\1<=1/\(∀(c:Nat),c<1->nth [u1] c=al (fun (a:Nat)=>fz Fz.nil 0 0 fun _ _=>any) 0 1 (fun (x:Nat)=>u1) c)/\1<=1/\(decide (u5 > 10)=true->Wp Tryd.prog R 45 0 Rd.top (aw Tryd.prog 27) [1,1,1,1,0,1,0] (aO Tryd.prog R 45 0 Rd.top (aw Tryd.prog 27) Q [Kont.seq [1,1,1,1,1]]) (St.mk [(2,ref 0 0),(3,ref 1 0),(7,ref 2 0),(8,ref 4 0),(34,AV.bool (decide (u5 > 10)))] [u2,u3,u8,cells false 1 fun (j:Nat)=>any,cells false 1 (nth [u1])] g))/\(decide (u5 > 10)=false->1<=1/\(∀(c:Nat),c<1->nth [fn 78 0 (nth []) 5 (nth u11)] c=al (fun (a:Nat)=>AV.nilf) 0 1 (fun (x:Nat)=>fn 78 0 (nth []) 5 (nth u11)) c)/\Tables.follows Tryd.prog.toTables Departure.mixedOrders=true/\1<=1/\1<=2/\(∀(hp':List AObj) (g':R.σ),SameO [2] u7 hp'->true=true/\Does Tryd.prog R 76 [ref 2 2,int i64 p.atoms,int i64 2] hp' g' (ret u12) hp' g')/\(true=true/\Does Tryd.prog R 78 (int i64 0::u12::u11) u7 g (ret (tup 0 (nth []))) u4 g)/\1<=1/\Q AEx.ret (St.mk [(4,ow true 7 m 1),(5,int i64 0)] u4 g)))) (if aJ p=true then 0 else 2)) (int u64 (↑(aB (ak p).snd 2 (p.atoms.toNat)):Int))) ([ref 5 0,ref 1 0,ref 4 0,ref 6 0,ref 0 0])) (int u64 (↑(aB (ak p).snd 3 (p.atoms.toNat)):Int))) (bif (if aJ p=true then 0 else 2) != 0 then true else !decide (1<=u6/\u6<=100))) (cells false 27 (aH (ak p).snd))) ([u2,u3,cells false 27 (aH (ak p).snd),cells false 1 fun (j:Nat)=>any,cells false 1 (nth [u1]),cells false 1 fun (a:Nat)=>fz Fz.nil 0 0 fun _ _=>any,cells false 1 (nth [fn 78 0 (nth []) 5 (nth [ref 5 0,ref 1 0,ref 4 0,ref 6 0,ref 0 0])])])) ((most:Int))) ((↑((aj (aB (ak p).snd 3 (p.atoms.toNat))).l.length):Int))) ([u2,u3,cells false 27 (aH (ak p).snd),cells false 1 fun (j:Nat)=>any,cells false 1 (nth [u1]),cells false 1 fun (j:Nat)=>ow true 7 m 1,cells false 1 (nth [fn 78 0 (nth []) 5 (nth [ref 5 0,ref 1 0,ref 4 0,ref 6 0,ref 0 0])]),cells false (m*1) fun (a:Nat)=>fz Fz.auto 1 ((aj (L.getD a 0)).l.length) fun (i x:Nat)=>ah (aj (L.getD a 0)).l i])) (cells false 1 fun (a:Nat)=>int i64 (most:Int))) (cells false 2 (nth [int i64 p.atoms,af p.rules]))) (fz Fz.auto 1 ((aj (aB (ak p).snd 3 (p.atoms.toNat))).l.length) fun (i x:Nat)=>ah (aj (aB (ak p).snd 3 (p.atoms.toNat))).l i)) (fun _=>by kernel_rfl) ⟨by omega,(fun _ _=>⟨rfl,(e8 _ _ _ _ (by omega))⟩),by omega,(fun hgd=>(fun _ _=>⟨rfl,(cK _ _ _ _ _ _)⟩)),fun hcc=>(nomatch (hc.symm.trans hcc)),fun _=>⟨by omega,⟨rfl,(dQ (T:=LT) inferInstance [] 2 (fun R _ g=>hD R g) rfl rfl rfl (by exact trivial) (by exact trivial) (by exact⟨bj (by exact⟨⟨trivial,trivial⟩,trivial⟩),trivial⟩) (by exact(yy (fun i hi=>match i,hi with|0,_=>(yu _)|1,_=>(yu _) ))) (by exact⟨yw,yw,⟨rfl,Nat.le_refl _,fun j hj=>(by first|exact bx (by first|exact trivial|apply kj)|exact yv (cT rfl))⟩,trivial⟩))⟩,by kernel_rfl,by omega,?_,⟨rfl,(cx _ _ _ _)⟩,⟨rfl,(dQ (T:=LT) inferInstance [3] 4 (fun R _ g=>hC R (aB (ak p).snd 3 (p.atoms.toNat)) (by omega) g) rfl rfl rfl (by exact⟨⟨rfl,Nat.le_refl _,fun j hj=>match j,hj with|0,_=>(yu _) ⟩,trivial⟩) (by exact⟨by omega,trivial⟩) (by exact⟨(Le.fn (fun i hi=>absurd hi (by omega)) (fun i hi=>match i,hi with|0,_=>(yu _) )),trivial⟩) (by exact bx (by exact trivial)) (by exact⟨yw,yw,yw,yw,trivial⟩))⟩,by omega,(fun c hc=>match c,hc with|0,_=>(by kernel_rfl) ),by omega,fun hcc=>(nomatch (hgt.symm.trans hcc)),fun _=>⟨by omega,(fun c hc=>match c,hc with|0,_=>(by kernel_rfl) ),by kernel_rfl,by omega,by omega,?_,⟨rfl,(dQ (T:=LT) inferInstance [5,1,4,6,0] 7 (fun R _ g=>hF R g) rfl rfl rfl (by exact⟨⟨rfl,Nat.le_refl _,fun j hj=>match j,hj with|0,_=>(yu _) ⟩,⟨rfl,Nat.le_refl _,fun j hj=>match j,hj with|0,_=>(yu _) ⟩,⟨rfl,Nat.le_refl _,fun j hj=>match j,hj with|0,_=>(yu _) ⟩,⟨rfl,Nat.le_refl _,fun j hj=>match j,hj with|0,_=>(Le.fn (fun i hi=>absurd hi (by omega)) (fun i hi=>match i,hi with|0,_=>(yu _)|1,_=>(yu _)|2,_=>(yu _)|3,_=>(yu _)|4,_=>(yu _) )) ⟩,⟨rfl,Nat.le_refl _,fun j hj=>match j,hj with|0,_=>(yu _)|1,_=>(yu _) ⟩,trivial⟩) (by exact⟨by omega,by omega,by omega,by omega,by omega,trivial⟩) (by exact⟨bj (by exact trivial),bj (by exact trivial),yu _,yu _,yu _,yu _,yu _,trivial⟩) (by exact bx (by exact trivial)) (by exact⟨⟨rfl,Nat.le_refl _,fun j hj=>match j,hj with|0,_=>(yu _)|1,_=>(yu _) ⟩,⟨rfl,Nat.le_refl _,fun j hj=>match j,hj with|0,_=>(yu _) ⟩,yw,yw,⟨rfl,Nat.le_refl _,fun j hj=>match j,hj with|0,_=>(yu _) ⟩,yw,⟨rfl,Nat.le_refl _,fun j hj=>match j,hj with|0,_=>(Le.fn (fun i hi=>absurd hi (by omega)) (fun i hi=>match i,hi with|0,_=>(yu _)|1,_=>(yu _)|2,_=>(yu _)|3,_=>(yu _)|4,_=>(yu _) )) ⟩,⟨rfl,Nat.le_refl _,fun j hj=>(by first|exact bx (by first|exact trivial|apply eZ)|exact yv (f9 rfl))⟩,trivial⟩))⟩,by omega,?_⟩⟩⟩
 ·intro hp' g' hs'
  exact⟨rfl,iZ [2] (fun R g=>hS R g) (by exact⟨rfl,trivial⟩) rfl (by exact fun n=>⟨yE (fun j hj=>(cT trivial).symm),trivial⟩) ⟨by omega,trivial⟩ (by exact fun n=>⟨yu _,yu _,yu _,trivial⟩) rfl (by exact fun n=>yu _) (by exact fun n=>⟨yE (fun j hj=>cT trivial),trivial⟩) hp' g' hs'⟩
 ·intro hp' g' hs'
  exact⟨rfl,iZ [2] (fun R g=>hS2 R g) (by exact⟨rfl,trivial⟩) rfl (by exact fun n=>⟨yE (fun j hj=>(cT trivial).symm),trivial⟩) ⟨by omega,trivial⟩ (by exact fun n=>⟨yu _,yu _,yu _,trivial⟩) rfl (by exact fun n=>yu _) (by exact fun n=>⟨yE (fun j hj=>cT trivial),trivial⟩) hp' g' hs'⟩
 ·subst hm0
  show bw Tryd.prog R 0 _ _ _ _ .ret _
  refine eU (.tup 2 (nth [.ow true 7 L.length 1,.int .i64 0])) _ rfl trivial (i3 0 [(0,.tup 2 (nth [cw L.length (fun i=>aj (L.getD i 0)),.int .i64 0]))] (Nat.le_refl _) (Nat.zero_le _) (fun i hi=>absurd hi (Nat.not_lt_zero i)) ⟨aA.tup (fun j hj=>?_),trivial⟩)
  match j,hj with
  |0,_=>exact aA.le (aA.ow (o:=7) (N:=L.length*1) (c:=aG L) (get:=aG L) (fr:=false) rfl (Nat.zero_le _) (Nat.le_refl _) (by decide) (fun j _=>yB (eZ _ _))) (yA rfl (fun i j hi hj=>by
    show aG L (i*1+j)=_
    rw[show i*1+j=i by omega]
    rfl))
  |1,_=>exact yB trivial
theorem ru (R:Res)[Tab LT R](p:Prg)(most:Nat)(hb:aJ p=true)(hm:1<=most/\most<=100)(hO:(bo (dx p)).length<=10)(g:R.σ):Does Tryd.prog R 27 [aq p,.int .i64 most] [] g (.ret (.tup 2 (nth [cw (stP p most).length (fun i=>aj ((stP p most).getD i 0)),.int .i64 0]))) [] g:=by
 by_cases hN:stP p most=[]
 ·rw[hN]
  exact gV (xF R p most hb hm hO hN g) (iF ⟨yy (fun j hj=>match j,hj with|0,_=>Le.nil_auto|1,_=>yu _),trivial⟩ trivial rfl)
 ·exact xG R p most hb hm hO hN g
structure LstOk (p:Prg)(n:Nat)(s:List Bool)(left:Nat):Prop where
 len:s.length=n
 bit:∀j,j<n->s.getD j false = !left.testBit j
 lt:left<2^24
 inn:∀j,left.testBit j=true->j<n
 cls:∀x y,x<n->left.testBit x=false->Reach p x y->left.testBit y=false
section
variable {p:Prg}{n:Nat}{s:List Bool}{left:Nat}
end
end Go.Avm.Pack
namespace Go.Avm.Pack
open Go Go.Avm Go.Proofs
open Go.IntKind (i64 u64)
open Go.Avm.AV (int bool any fz fp sl ow ref fn ifc val agg tup)
open Go.Avm.AObj (cells dead)
open Go.Avm.Oc (ret)
set_option maxRecDepth 4000
theorem jw (R:Res)(a:Int)(hp:List AObj)(g:R.σ):Does Tryd.prog R 91 [.int .i64 a] hp g (.ret (bQ ⟨a,false⟩)) hp g:=by
 refine bW (fun R g=>?_) (by exact⟨trivial,trivial⟩) R hp g
 refine spW (nt:=5) (rs:=[.cell 2 77]) (k0:=0) ?_
 refine vcR [] (lkL [(0,[0,2]),(1,[2])]) (lkL [(1,[(2,ROrc.val (Orc.obj (nth [int i64 a,AV.bool false])))])]) (fun Q=>2<=2/\(∀(c:Nat),c<2->nth [int i64 a,AV.bool false] c=al (nth [int i64 0,AV.bool false]) 0 2 (List.brecOn (motive:=fun (x:List AV)=>Nat->AV) [int i64 a,AV.bool false] nth._f) c)/\Q AEx.ret (St.mk [(2,ref 0 0)] [cells false 2 (nth [int i64 a,AV.bool false])] g)) ⟨omg,(fun c hc=>match c,hc with|0,_=>krf|1,_=>krf ),?_⟩
 refine(av (cu (agg 2 (nth [int i64 a,AV.bool false])) ([0+(TyI.mk ((fun (x:TypeInfo)=>x.desc) Tryd.prog.types[76]) Tryd.prog.types[77].size Tryd.prog.types[77].bytes (bT (cO (Value.agg #[Value.int i64 0,Value.bool false]))) (cq ((fun (x:TypeInfo)=>x.desc) Tryd.prog.types[76])) (dk Tryd.prog 77)).size<=2]) krf (by exact⟨dcd,trivial⟩) ⟨⟨trivial,trivial⟩,trivial⟩ rfl) (yv krf))
theorem jx (R:Res)(a:Int)(hp:List AObj)(g:R.σ):Does Tryd.prog R 92 [.int .i64 a] hp g (.ret (bQ ⟨a,true⟩)) hp g:=by
 refine bW (fun R g=>?_) (by exact⟨trivial,trivial⟩) R hp g
 refine spW (nt:=5) (rs:=[.cell 2 77]) (k0:=0) ?_
 refine vcR [] (lkL [(0,[0,2]),(1,[2])]) (lkL [(1,[(2,ROrc.val (Orc.obj (nth [int i64 a,AV.bool true])))])]) (fun Q=>2<=2/\(∀(c:Nat),c<2->nth [int i64 a,AV.bool true] c=al (nth [int i64 0,AV.bool false]) 0 2 (List.brecOn (motive:=fun (x:List AV)=>Nat->AV) [int i64 a,AV.bool true] nth._f) c)/\Q AEx.ret (St.mk [(2,ref 0 0)] [cells false 2 (nth [int i64 a,AV.bool true])] g)) ⟨omg,(fun c hc=>match c,hc with|0,_=>krf|1,_=>krf ),?_⟩
 refine(av (cu (agg 2 (nth [int i64 a,AV.bool true])) ([0+(TyI.mk ((fun (x:TypeInfo)=>x.desc) Tryd.prog.types[76]) Tryd.prog.types[77].size Tryd.prog.types[77].bytes (bT (cO (Value.agg #[Value.int i64 0,Value.bool false]))) (cq ((fun (x:TypeInfo)=>x.desc) Tryd.prog.types[76])) (dk Tryd.prog 77)).size<=2]) krf (by exact⟨dcd,trivial⟩) ⟨⟨trivial,trivial⟩,trivial⟩ rfl) (yv krf))
theorem eH (R:Res)(a:Int)(b:KL Lit)(hp:List AObj)(g:R.σ):Does Tryd.prog R 90 [.int .i64 a,ao b] hp g (.ret (bF ⟨a,b⟩)) hp g:=by
 refine bW (fun R g=>?_) (by exact⟨trivial,trivial,trivial⟩) R hp g
 refine spW (nt:=8) (rs:=[.cell 4 75]) (k0:=0) ?_
 refine vcR [] (lkL [(0,[0,1,4]),(1,[4])]) (lkL [(1,[(3,ROrc.val (Orc.obj (nth [int i64 a,ao b])))])]) (fun Q=>2<=2/\(∀(c:Nat),c<2->nth [int i64 a,ao b] c=al (nth [int i64 0,fz Fz.nil 0 0 fun x x_1=>any]) 0 2 (List.brecOn (motive:=fun (x:List AV)=>Nat->AV) [int i64 a,ao b] nth._f) c)/\Q AEx.ret (St.mk [(4,ref 0 0)] [cells false 2 (nth [int i64 a,ao b])] g)) ⟨omg,(fun c hc=>match c,hc with|0,_=>krf|1,_=>krf ),?_⟩
 refine(av (cu (agg 2 (nth [int i64 a,fz b.2 2 (b.l.length) fun (i:Nat)=>i7 (b.l.getD i default)])) ([0+(TyI.mk ((fun (x:TypeInfo)=>x.desc) Tryd.prog.types[74]) Tryd.prog.types[75].size Tryd.prog.types[75].bytes (bT (cO (Value.agg #[Value.int i64 0,Value.slice none 0 0]))) (cq ((fun (x:TypeInfo)=>x.desc) Tryd.prog.types[74])) (dk Tryd.prog 75)).size<=2]) krf (by exact⟨dcd,trivial⟩) ⟨⟨trivial,trivial⟩,trivial⟩ rfl) (yv krf))
def tN:KL Lit:=⟨[],.nil⟩
def tA1:KL Lit:=⟨[⟨0,false⟩,⟨2,true⟩],.exa⟩
def tA2:KL Lit:=⟨[⟨3,false⟩],.exa⟩
def tA3:KL Lit:=⟨[⟨2,false⟩],.exa⟩
def tA4:KL Lit:=⟨[⟨5,true⟩],.exa⟩
def tA5:KL Lit:=⟨[⟨4,true⟩],.exa⟩
def tAR:KL Rule:=⟨[⟨0,tN⟩,⟨1,tA1⟩,⟨2,tA2⟩,⟨3,tA3⟩,⟨4,tA4⟩,⟨5,tA5⟩],.exa⟩
def tA:Prg:=⟨6,tAR⟩
def tB1:KL Lit:=⟨[⟨1,true⟩],.exa⟩
def tB2:KL Lit:=⟨[⟨0,true⟩],.exa⟩
def tB3:KL Lit:=⟨[⟨0,false⟩],.exa⟩
def tB4:KL Lit:=⟨[⟨1,false⟩],.exa⟩
def tBR:KL Rule:=⟨[⟨0,tB1⟩,⟨1,tB2⟩,⟨2,tB3⟩,⟨2,tB4⟩],.exa⟩
def tB:Prg:=⟨3,tBR⟩
def tS1:KL Int:=⟨[0],.exa⟩
def tS2:KL Int:=⟨[2,3],.exa⟩
def tS3:KL Int:=⟨[1],.exa⟩
def tS:KL Step:=⟨[⟨0,tS1⟩,⟨-1,tS2⟩,⟨1,tS3⟩],.exa⟩
theorem c_A (R:Res)(hp:List AObj)(g:R.σ):Does Tryd.prog R 44 [] hp g (.ret (aq tA)) hp g:=by
 refine bW (fun R g=>?_) (by exact trivial) R hp g
 obtain⟨v0,e0⟩:∃v,v=tN:=⟨_,rfl⟩
 obtain⟨v1,e1⟩:∃v,v=tA1:=⟨_,rfl⟩
 obtain⟨v2,e2⟩:∃v,v=tA2:=⟨_,rfl⟩
 obtain⟨v3,e3⟩:∃v,v=tA3:=⟨_,rfl⟩
 obtain⟨v4,e4⟩:∃v,v=tA4:=⟨_,rfl⟩
 obtain⟨v5,e5⟩:∃v,v=tA5:=⟨_,rfl⟩
 obtain⟨w,f⟩:∃v,v=tAR:=⟨_,rfl⟩
 show Does _ _ _ _ _ _ (.ret (aq ⟨6,tAR⟩)) _ _
 rw[<-f]
 refine spW (nt:=20) (rs:=[.cell 0 24]) (k0:=0) ?_
 refine vcR [] (lkL [(0,[0]),(1,[0])]) (lkL [(1,[(0,ROrc.pcall (bF (Rule.mk 0 (KL.mk [] Fz.nil)))),(1,ROrc.pcall (bQ (Lit.mk 0 false))),(2,ROrc.pcall (bQ (Lit.mk 2 true))),(3,ROrc.kop (ao v1)),(4,ROrc.pcall (bF (Rule.mk 1 v1))),(5,ROrc.pcall (bQ (Lit.mk 3 false))),(6,ROrc.kop (ao v2)),(7,ROrc.pcall (bF (Rule.mk 2 v2))),(8,ROrc.pcall (bQ (Lit.mk 2 false))),(9,ROrc.kop (ao v3)),(10,ROrc.pcall (bF (Rule.mk 3 v3))),(11,ROrc.pcall (bQ (Lit.mk 5 true))),(12,ROrc.kop (ao v4)),(13,ROrc.pcall (bF (Rule.mk 4 v4))),(14,ROrc.pcall (bQ (Lit.mk 4 true))),(15,ROrc.kop (ao v5)),(16,ROrc.pcall (bF (Rule.mk 5 v5))),(17,ROrc.kop (af w)),(19,ROrc.val (Orc.obj (nth [int i64 6,af w])))])]) (fun Q=>(fun (u1:List Row)=>(fun (u2:List AObj)=>(fun (u3:List Row)=>(fun (u4:List Row)=>(fun (u5:List Row)=>(fun (u6:List (Nat × AV))=>(∀(hp:List AObj) (g:R.σ),true=true/\Does Tryd.prog R 90 [int i64 0,fz Fz.nil 0 0 fun x x_1=>any] hp g (ret (agg 2 (nth [int i64 0,fz Fz.nil 2 0 fun i=>i7 ((KL.mk [] Fz.nil).l.getD i default)]))) hp g)/\(∀(hp:List AObj) (g:R.σ),true=true/\Does Tryd.prog R 91 [int i64 0] hp g (ret (agg 2 (nth [int i64 0,AV.bool false]))) hp g)/\(∀(hp:List AObj) (g:R.σ),true=true/\Does Tryd.prog R 92 [int i64 2] hp g (ret (agg 2 (nth [int i64 2,AV.bool true]))) hp g)/\OpOk Tryd.prog R (Oper.mk (some 4) (Op.buildSlice 73 2 #[(0,Operand.tmp 2),(1,Operand.tmp 3)]) 73 "law.go:21" #[Edge.mk 1 Ground.data,Edge.mk 2 Ground.data] none) (evO u4 u6 []) u2 g (ao v1) u2 g/\(∀(hp:List AObj) (g:R.σ),true=true/\Does Tryd.prog R 90 [int i64 1,ao v1] hp g (ret (agg 2 (nth [int i64 1,ao v1]))) hp g)/\(∀(hp:List AObj) (g:R.σ),true=true/\Does Tryd.prog R 91 [int i64 3] hp g (ret (agg 2 (nth [int i64 3,AV.bool false]))) hp g)/\OpOk Tryd.prog R (Oper.mk (some 7) (Op.buildSlice 73 1 #[(0,Operand.tmp 6)]) 73 "law.go:21" #[Edge.mk 5 Ground.data] none) (evO (Row.mk (some 6) none (agg 2 (nth [int i64 3,AV.bool false])) false (some []) []::Row.mk (some 5) none (agg 2 (nth [int i64 1,ao v1])) false (some []) []::Row.mk (some 4) none (ao v1) true (some []) []::u4) u6 []) u2 g (ao v2) u2 g/\(∀(hp:List AObj) (g:R.σ),true=true/\Does Tryd.prog R 90 [int i64 2,ao v2] hp g (ret (agg 2 (nth [int i64 2,ao v2]))) hp g)/\(∀(hp:List AObj) (g:R.σ),true=true/\Does Tryd.prog R 91 [int i64 2] hp g (ret (agg 2 (nth [int i64 2,AV.bool false]))) hp g)/\OpOk Tryd.prog R (Oper.mk (some 10) (Op.buildSlice 73 1 #[(0,Operand.tmp 9)]) 73 "law.go:21" #[Edge.mk 8 Ground.data] none) (evO u1 u6 []) u2 g (ao v3) u2 g/\(∀(hp:List AObj) (g:R.σ),true=true/\Does Tryd.prog R 90 [int i64 3,ao v3] hp g (ret (agg 2 (nth [int i64 3,ao v3]))) hp g)/\(∀(hp:List AObj) (g:R.σ),true=true/\Does Tryd.prog R 92 [int i64 5] hp g (ret (agg 2 (nth [int i64 5,AV.bool true]))) hp g)/\OpOk Tryd.prog R (Oper.mk (some 13) (Op.buildSlice 73 1 #[(0,Operand.tmp 12)]) 73 "law.go:21" #[Edge.mk 11 Ground.data] none) (evO u3 u6 []) u2 g (ao v4) u2 g/\(∀(hp:List AObj) (g:R.σ),true=true/\Does Tryd.prog R 90 [int i64 4,ao v4] hp g (ret (agg 2 (nth [int i64 4,ao v4]))) hp g)/\(∀(hp:List AObj) (g:R.σ),true=true/\Does Tryd.prog R 92 [int i64 4] hp g (ret (agg 2 (nth [int i64 4,AV.bool true]))) hp g)/\OpOk Tryd.prog R (Oper.mk (some 16) (Op.buildSlice 73 1 #[(0,Operand.tmp 15)]) 73 "law.go:21" #[Edge.mk 14 Ground.data] none) (evO u5 u6 []) u2 g (ao v5) u2 g/\(∀(hp:List AObj) (g:R.σ),true=true/\Does Tryd.prog R 90 [int i64 5,ao v5] hp g (ret (agg 2 (nth [int i64 5,ao v5]))) hp g)/\OpOk Tryd.prog R (Oper.mk (some 18) (Op.buildSlice 22 6 #[(0,Operand.tmp 1),(1,Operand.tmp 5),(2,Operand.tmp 8),(3,Operand.tmp 11),(4,Operand.tmp 14),(5,Operand.tmp 17)]) 22 "law.go:21" #[Edge.mk 0 Ground.data,Edge.mk 4 Ground.data,Edge.mk 7 Ground.data,Edge.mk 10 Ground.data,Edge.mk 13 Ground.data,Edge.mk 16 Ground.data] none) (evO (Row.mk (some 17) none (agg 2 (nth [int i64 5,ao v5])) false (some []) []::Row.mk (some 16) none (ao v5) true (some []) []::u5) u6 []) u2 g (af w) u2 g/\2<=2/\(∀(c:Nat),c<2->nth [int i64 6,af w] c=al (nth [int i64 0,fz Fz.nil 0 0 fun x x_1=>any]) 0 2 (List.brecOn (motive:=fun (x:List AV)=>Nat->AV) [int i64 6,af w] nth._f) c)/\Q AEx.ret (St.mk u6 [cells false 2 (nth [int i64 6,af w])] g)) ([(0,ref 0 0)])) (Row.mk (some 15) none (agg 2 (nth [int i64 4,AV.bool true])) false (some []) []::Row.mk (some 14) none (agg 2 (nth [int i64 4,ao v4])) false (some []) []::Row.mk (some 13) none (ao v4) true (some []) []::u3)) ([Row.mk (some 3) none (agg 2 (nth [int i64 2,AV.bool true])) false (some []) [],Row.mk (some 2) none (agg 2 (nth [int i64 0,AV.bool false])) false (some []) [],Row.mk (some 1) none (agg 2 (nth [int i64 0,fz Fz.nil 2 0 fun i=>i7 (List.getD [] i default)])) false (some []) []])) (Row.mk (some 12) none (agg 2 (nth [int i64 5,AV.bool true])) false (some []) []::Row.mk (some 11) none (agg 2 (nth [int i64 3,ao v3])) false (some []) []::Row.mk (some 10) none (ao v3) true (some []) []::u1)) ([cells false 2 (nth [int i64 0,fz Fz.nil 0 0 fun x x_1=>any])])) ([Row.mk (some 9) none (agg 2 (nth [int i64 2,AV.bool false])) false (some []) [],Row.mk (some 8) none (agg 2 (nth [int i64 2,ao v2])) false (some []) [],Row.mk (some 7) none (ao v2) true (some []) [],Row.mk (some 6) none (agg 2 (nth [int i64 3,AV.bool false])) false (some []) [],Row.mk (some 5) none (agg 2 (nth [int i64 1,ao v1])) false (some []) [],Row.mk (some 4) none (ao v1) true (some []) [],Row.mk (some 3) none (agg 2 (nth [int i64 2,AV.bool true])) false (some []) [],Row.mk (some 2) none (agg 2 (nth [int i64 0,AV.bool false])) false (some []) [],Row.mk (some 1) none (agg 2 (nth [int i64 0,fz Fz.nil 2 0 fun i=>i7 (List.getD [] i default)])) false (some []) []])) ⟨(fun _ _=>⟨rfl,(md (args':=[int i64 0,ao (KL.mk [] Fz.nil)]) (eH _ _ (KL.mk [] Fz.nil) _ _) (by exact⟨yu _,Le.nil,trivial⟩) (yu _))⟩),(fun _ _=>⟨rfl,(jw _ _ _ _)⟩),(fun _ _=>⟨rfl,(jx _ _ _ _)⟩),?_,(fun _ _=>⟨rfl,(eH _ _ _ _ _)⟩),(fun _ _=>⟨rfl,(jw _ _ _ _)⟩),?_,(fun _ _=>⟨rfl,(eH _ _ _ _ _)⟩),(fun _ _=>⟨rfl,(jw _ _ _ _)⟩),?_,(fun _ _=>⟨rfl,(eH _ _ _ _ _)⟩),(fun _ _=>⟨rfl,(jx _ _ _ _)⟩),?_,(fun _ _=>⟨rfl,(eH _ _ _ _ _)⟩),(fun _ _=>⟨rfl,(jx _ _ _ _)⟩),?_,(fun _ _=>⟨rfl,(eH _ _ _ _ _)⟩),?_,omg,(fun c hc=>match c,hc with|0,_=>krf|1,_=>krf ),?_⟩
 ·subst e1;exact bh (n:=2) (es:=2) krf (by exact⟨⟨⟨trivial,trivial⟩,trivial⟩,⟨⟨trivial,trivial⟩,trivial⟩,trivial⟩) rfl rfl (fun i hi j hj=>match i,hi,j,hj with|0,_,0,_=>krf|0,_,1,_=>krf|1,_,0,_=>krf|1,_,1,_=>krf ) (fun i hi j hj=>match i,hi,j,hj with|0,_,0,_=>trivial|0,_,1,_=>trivial|1,_,0,_=>trivial|1,_,1,_=>trivial )
 ·subst e2;exact bh (n:=1) (es:=2) krf (by exact⟨⟨⟨trivial,trivial⟩,trivial⟩,trivial⟩) rfl rfl (fun i hi j hj=>match i,hi,j,hj with|0,_,0,_=>krf|0,_,1,_=>krf ) (fun i hi j hj=>match i,hi,j,hj with|0,_,0,_=>trivial|0,_,1,_=>trivial )
 ·subst e3;exact bh (n:=1) (es:=2) krf (by exact⟨⟨⟨trivial,trivial⟩,trivial⟩,trivial⟩) rfl rfl (fun i hi j hj=>match i,hi,j,hj with|0,_,0,_=>krf|0,_,1,_=>krf ) (fun i hi j hj=>match i,hi,j,hj with|0,_,0,_=>trivial|0,_,1,_=>trivial )
 ·subst e4;exact bh (n:=1) (es:=2) krf (by exact⟨⟨⟨trivial,trivial⟩,trivial⟩,trivial⟩) rfl rfl (fun i hi j hj=>match i,hi,j,hj with|0,_,0,_=>krf|0,_,1,_=>krf ) (fun i hi j hj=>match i,hi,j,hj with|0,_,0,_=>trivial|0,_,1,_=>trivial )
 ·subst e5;exact bh (n:=1) (es:=2) krf (by exact⟨⟨⟨trivial,trivial⟩,trivial⟩,trivial⟩) rfl rfl (fun i hi j hj=>match i,hi,j,hj with|0,_,0,_=>krf|0,_,1,_=>krf ) (fun i hi j hj=>match i,hi,j,hj with|0,_,0,_=>trivial|0,_,1,_=>trivial )
 ·subst e1 e2 e3 e4 e5 f;exact bh (n:=6) (es:=2) krf (by exact⟨⟨⟨trivial,trivial⟩,trivial⟩,⟨⟨trivial,trivial⟩,trivial⟩,⟨⟨trivial,trivial⟩,trivial⟩,⟨⟨trivial,trivial⟩,trivial⟩,⟨⟨trivial,trivial⟩,trivial⟩,⟨⟨trivial,trivial⟩,trivial⟩,trivial⟩) rfl rfl (fun i hi j hj=>match i,hi,j,hj with|0,_,0,_=>krf|0,_,1,_=>krf|1,_,0,_=>krf|1,_,1,_=>krf|2,_,0,_=>krf|2,_,1,_=>krf|3,_,0,_=>krf|3,_,1,_=>krf|4,_,0,_=>krf|4,_,1,_=>krf|5,_,0,_=>krf|5,_,1,_=>krf ) (fun i hi j hj=>match i,hi,j,hj with|0,_,0,_=>trivial|0,_,1,_=>trivial|1,_,0,_=>trivial|1,_,1,_=>trivial|2,_,0,_=>trivial|2,_,1,_=>trivial|3,_,0,_=>trivial|3,_,1,_=>trivial|4,_,0,_=>trivial|4,_,1,_=>trivial|5,_,0,_=>trivial|5,_,1,_=>trivial )
 ·refine(av (cu (agg 2 (nth [int i64 6,fz w.2 2 (w.l.length) fun (i:Nat)=>bz (w.l.getD i default)])) ([0+(TyI.mk ((fun (x:TypeInfo)=>x.desc) Tryd.prog.types[23]) Tryd.prog.types[24].size Tryd.prog.types[24].bytes (bT (cO (Value.agg #[Value.int i64 0,Value.slice none 0 0]))) (cq ((fun (x:TypeInfo)=>x.desc) Tryd.prog.types[23])) (dk Tryd.prog 24)).size<=2]) krf (by exact⟨dcd,trivial⟩) ⟨⟨trivial,trivial⟩,trivial⟩ rfl) (yv krf))
theorem c_B (R:Res)(hp:List AObj)(g:R.σ):Does Tryd.prog R 45 [] hp g (.ret (aq tB)) hp g:=by
 refine bW (fun R g=>?_) (by exact trivial) R hp g
 obtain⟨v1,e1⟩:∃v,v=tB1:=⟨_,rfl⟩
 obtain⟨v2,e2⟩:∃v,v=tB2:=⟨_,rfl⟩
 obtain⟨v3,e3⟩:∃v,v=tB3:=⟨_,rfl⟩
 obtain⟨v4,e4⟩:∃v,v=tB4:=⟨_,rfl⟩
 obtain⟨w,f⟩:∃v,v=tBR:=⟨_,rfl⟩
 show Does _ _ _ _ _ _ (.ret (aq ⟨3,tBR⟩)) _ _
 rw[<-f]
 refine spW (nt:=15) (rs:=[.cell 0 24]) (k0:=0) ?_
 refine vcR [] (lkL [(0,[0]),(1,[0])]) (lkL [(1,[(0,ROrc.pcall (bQ (Lit.mk 1 true))),(1,ROrc.kop (ao v1)),(2,ROrc.pcall (bF (Rule.mk 0 v1))),(3,ROrc.pcall (bQ (Lit.mk 0 true))),(4,ROrc.kop (ao v2)),(5,ROrc.pcall (bF (Rule.mk 1 v2))),(6,ROrc.pcall (bQ (Lit.mk 0 false))),(7,ROrc.kop (ao v3)),(8,ROrc.pcall (bF (Rule.mk 2 v3))),(9,ROrc.pcall (bQ (Lit.mk 1 false))),(10,ROrc.kop (ao v4)),(11,ROrc.pcall (bF (Rule.mk 2 v4))),(12,ROrc.kop (af w)),(14,ROrc.val (Orc.obj (nth [int i64 3,af w])))])]) (fun Q=>(fun (u1:List Row)=>(fun (u2:List AObj)=>(fun (u3:List Row)=>(fun (u4:Row)=>(fun (u5:AV)=>(∀(hp:List AObj) (g:R.σ),true=true/\Does Tryd.prog R 92 [int i64 1] hp g (ret (agg 2 (nth [int i64 1,AV.bool true]))) hp g)/\OpOk Tryd.prog R (Oper.mk (some 2) (Op.buildSlice 73 1 #[(0,Operand.tmp 1)]) 73 "law.go:25" #[Edge.mk 0 Ground.data] none) (evO [u4] [(0,ref 0 0)] []) u2 g (ao v1) u2 g/\(∀(hp:List AObj) (g:R.σ),true=true/\Does Tryd.prog R 90 [u5,ao v1] hp g (ret (agg 2 (nth [u5,ao v1]))) hp g)/\(∀(hp:List AObj) (g:R.σ),true=true/\Does Tryd.prog R 92 [u5] hp g (ret (agg 2 (nth [u5,AV.bool true]))) hp g)/\OpOk Tryd.prog R (Oper.mk (some 5) (Op.buildSlice 73 1 #[(0,Operand.tmp 4)]) 73 "law.go:25" #[Edge.mk 3 Ground.data] none) (evO [Row.mk (some 4) none (agg 2 (nth [u5,AV.bool true])) false (some []) [],Row.mk (some 3) none (agg 2 (nth [u5,ao v1])) false (some []) [],Row.mk (some 2) none (ao v1) true (some []) [],u4] [(0,ref 0 0)] []) u2 g (ao v2) u2 g/\(∀(hp:List AObj) (g:R.σ),true=true/\Does Tryd.prog R 90 [int i64 1,ao v2] hp g (ret (agg 2 (nth [int i64 1,ao v2]))) hp g)/\(∀(hp:List AObj) (g:R.σ),true=true/\Does Tryd.prog R 91 [u5] hp g (ret (agg 2 (nth [u5,AV.bool false]))) hp g)/\OpOk Tryd.prog R (Oper.mk (some 8) (Op.buildSlice 73 1 #[(0,Operand.tmp 7)]) 73 "law.go:25" #[Edge.mk 6 Ground.data] none) (evO u1 [(0,ref 0 0)] []) u2 g (ao v3) u2 g/\(∀(hp:List AObj) (g:R.σ),true=true/\Does Tryd.prog R 90 [int i64 2,ao v3] hp g (ret (agg 2 (nth [int i64 2,ao v3]))) hp g)/\(∀(hp:List AObj) (g:R.σ),true=true/\Does Tryd.prog R 91 [int i64 1] hp g (ret (agg 2 (nth [int i64 1,AV.bool false]))) hp g)/\OpOk Tryd.prog R (Oper.mk (some 11) (Op.buildSlice 73 1 #[(0,Operand.tmp 10)]) 73 "law.go:25" #[Edge.mk 9 Ground.data] none) (evO u3 [(0,ref 0 0)] []) u2 g (ao v4) u2 g/\(∀(hp:List AObj) (g:R.σ),true=true/\Does Tryd.prog R 90 [int i64 2,ao v4] hp g (ret (agg 2 (nth [int i64 2,ao v4]))) hp g)/\OpOk Tryd.prog R (Oper.mk (some 13) (Op.buildSlice 22 4 #[(0,Operand.tmp 3),(1,Operand.tmp 6),(2,Operand.tmp 9),(3,Operand.tmp 12)]) 22 "law.go:25" #[Edge.mk 2 Ground.data,Edge.mk 5 Ground.data,Edge.mk 8 Ground.data,Edge.mk 11 Ground.data] none) (evO (Row.mk (some 12) none (agg 2 (nth [int i64 2,ao v4])) false (some []) []::Row.mk (some 11) none (ao v4) true (some []) []::u3) [(0,ref 0 0)] []) u2 g (af w) u2 g/\2<=2/\(∀(c:Nat),c<2->nth [int i64 3,af w] c=al (nth [u5,fz Fz.nil 0 0 fun x x_1=>any]) 0 2 (List.brecOn (motive:=fun (x:List AV)=>Nat->AV) [int i64 3,af w] nth._f) c)/\Q AEx.ret (St.mk [(0,ref 0 0)] [cells false 2 (nth [int i64 3,af w])] g)) (int i64 0)) (Row.mk (some 1) none (agg 2 (nth [int i64 1,AV.bool true])) false (some []) [])) (Row.mk (some 10) none (agg 2 (nth [int i64 1,AV.bool false])) false (some []) []::Row.mk (some 9) none (agg 2 (nth [int i64 2,ao v3])) false (some []) []::Row.mk (some 8) none (ao v3) true (some []) []::u1)) ([cells false 2 (nth [int i64 0,fz Fz.nil 0 0 fun x x_1=>any])])) ([Row.mk (some 7) none (agg 2 (nth [int i64 0,AV.bool false])) false (some []) [],Row.mk (some 6) none (agg 2 (nth [int i64 1,ao v2])) false (some []) [],Row.mk (some 5) none (ao v2) true (some []) [],Row.mk (some 4) none (agg 2 (nth [int i64 0,AV.bool true])) false (some []) [],Row.mk (some 3) none (agg 2 (nth [int i64 0,ao v1])) false (some []) [],Row.mk (some 2) none (ao v1) true (some []) [],Row.mk (some 1) none (agg 2 (nth [int i64 1,AV.bool true])) false (some []) []])) ⟨(fun _ _=>⟨rfl,(jx _ _ _ _)⟩),?_,(fun _ _=>⟨rfl,(eH _ _ _ _ _)⟩),(fun _ _=>⟨rfl,(jx _ _ _ _)⟩),?_,(fun _ _=>⟨rfl,(eH _ _ _ _ _)⟩),(fun _ _=>⟨rfl,(jw _ _ _ _)⟩),?_,(fun _ _=>⟨rfl,(eH _ _ _ _ _)⟩),(fun _ _=>⟨rfl,(jw _ _ _ _)⟩),?_,(fun _ _=>⟨rfl,(eH _ _ _ _ _)⟩),?_,omg,(fun c hc=>match c,hc with|0,_=>krf|1,_=>krf ),?_⟩
 ·subst e1;exact bh (n:=1) (es:=2) krf (by exact⟨⟨⟨trivial,trivial⟩,trivial⟩,trivial⟩) rfl rfl (fun i hi j hj=>match i,hi,j,hj with|0,_,0,_=>krf|0,_,1,_=>krf ) (fun i hi j hj=>match i,hi,j,hj with|0,_,0,_=>trivial|0,_,1,_=>trivial )
 ·subst e2;exact bh (n:=1) (es:=2) krf (by exact⟨⟨⟨trivial,trivial⟩,trivial⟩,trivial⟩) rfl rfl (fun i hi j hj=>match i,hi,j,hj with|0,_,0,_=>krf|0,_,1,_=>krf ) (fun i hi j hj=>match i,hi,j,hj with|0,_,0,_=>trivial|0,_,1,_=>trivial )
 ·subst e3;exact bh (n:=1) (es:=2) krf (by exact⟨⟨⟨trivial,trivial⟩,trivial⟩,trivial⟩) rfl rfl (fun i hi j hj=>match i,hi,j,hj with|0,_,0,_=>krf|0,_,1,_=>krf ) (fun i hi j hj=>match i,hi,j,hj with|0,_,0,_=>trivial|0,_,1,_=>trivial )
 ·subst e4;exact bh (n:=1) (es:=2) krf (by exact⟨⟨⟨trivial,trivial⟩,trivial⟩,trivial⟩) rfl rfl (fun i hi j hj=>match i,hi,j,hj with|0,_,0,_=>krf|0,_,1,_=>krf ) (fun i hi j hj=>match i,hi,j,hj with|0,_,0,_=>trivial|0,_,1,_=>trivial )
 ·subst e1 e2 e3 e4 f;exact bh (n:=4) (es:=2) krf (by exact⟨⟨⟨trivial,trivial⟩,trivial⟩,⟨⟨trivial,trivial⟩,trivial⟩,⟨⟨trivial,trivial⟩,trivial⟩,⟨⟨trivial,trivial⟩,trivial⟩,trivial⟩) rfl rfl (fun i hi j hj=>match i,hi,j,hj with|0,_,0,_=>krf|0,_,1,_=>krf|1,_,0,_=>krf|1,_,1,_=>krf|2,_,0,_=>krf|2,_,1,_=>krf|3,_,0,_=>krf|3,_,1,_=>krf ) (fun i hi j hj=>match i,hi,j,hj with|0,_,0,_=>trivial|0,_,1,_=>trivial|1,_,0,_=>trivial|1,_,1,_=>trivial|2,_,0,_=>trivial|2,_,1,_=>trivial|3,_,0,_=>trivial|3,_,1,_=>trivial )
 ·refine(av (cu (agg 2 (nth [int i64 3,fz w.2 2 (w.l.length) fun (i:Nat)=>bz (w.l.getD i default)])) ([0+(TyI.mk ((fun (x:TypeInfo)=>x.desc) Tryd.prog.types[23]) Tryd.prog.types[24].size Tryd.prog.types[24].bytes (bT (cO (Value.agg #[Value.int i64 0,Value.slice none 0 0]))) (cq ((fun (x:TypeInfo)=>x.desc) Tryd.prog.types[23])) (dk Tryd.prog 24)).size<=2]) krf (by exact⟨dcd,trivial⟩) ⟨⟨trivial,trivial⟩,trivial⟩ rfl) (yv krf))
theorem xH (R:Res)(hp:List AObj)(g:R.σ):Does Tryd.prog R 57 [] hp g (.ret (ay tS)) hp g:=by
 refine bW (fun R g=>?_) (by exact trivial) R hp g
 obtain⟨v1,e1⟩:∃v,v=tS1:=⟨_,rfl⟩
 obtain⟨v2,e2⟩:∃v,v=tS2:=⟨_,rfl⟩
 obtain⟨v3,e3⟩:∃v,v=tS3:=⟨_,rfl⟩
 obtain⟨w,f⟩:∃v,v=tS:=⟨_,rfl⟩
 rw[<-f]
 refine spW (nt:=8) (rs:=[.tmp 0]) (k0:=0) ?_
 refine vcR [] (lkL [(1,[0])]) (lkL [(1,[(0,ROrc.kop (ag v1)),(2,ROrc.kop (ag v2)),(4,ROrc.kop (ag v3)),(6,ROrc.kop (ay w))])]) (fun Q=>(fun (u1:List Row)=>OpOk Tryd.prog R (Oper.mk (some 1) (Op.buildSlice 53 1 #[(0,Operand.const (Value.int i64 0))]) 53 "law.go:30" #[] none) (evO [] [] []) [] g (ag v1) [] g/\OpOk Tryd.prog R (Oper.mk (some 3) (Op.buildSlice 53 2 #[(0,Operand.const (Value.int i64 2)),(1,Operand.const (Value.int i64 3))]) 53 "law.go:30" #[] none) (evO [Row.mk (some 2) none (agg 2 (nth [int i64 0,ag v1])) false (some []) [],Row.mk (some 1) none (ag v1) true (some []) []] [] []) [] g (ag v2) [] g/\OpOk Tryd.prog R (Oper.mk (some 5) (Op.buildSlice 53 1 #[(0,Operand.const (Value.int i64 1))]) 53 "law.go:30" #[] none) (evO u1 [] []) [] g (ag v3) [] g/\OpOk Tryd.prog R (Oper.mk (some 7) (Op.buildSlice 29 3 #[(0,Operand.tmp 2),(1,Operand.tmp 4),(2,Operand.tmp 6)]) 29 "law.go:30" #[Edge.mk 1 Ground.data,Edge.mk 3 Ground.data,Edge.mk 5 Ground.data] none) (evO (Row.mk (some 6) none (agg 2 (nth [int i64 1,ag v3])) false (some []) []::Row.mk (some 5) none (ag v3) true (some []) []::u1) [] []) [] g (ay w) [] g/\Q AEx.ret (St.mk [(0,ay w)] [] g)) ([Row.mk (some 4) none (agg 2 (nth [int i64 (-1),ag v2])) false (some []) [],Row.mk (some 3) none (ag v2) true (some []) [],Row.mk (some 2) none (agg 2 (nth [int i64 0,ag v1])) false (some []) [],Row.mk (some 1) none (ag v1) true (some []) []])) ⟨?_,?_,?_,?_,?_⟩
 ·subst e1;exact bh (n:=1) (es:=1) krf (by exact⟨trivial,trivial⟩) rfl rfl (fun i hi j hj=>match i,hi,j,hj with|0,_,0,_=>krf ) (fun i hi j hj=>match i,hi,j,hj with|0,_,0,_=>trivial )
 ·subst e2;exact bh (n:=2) (es:=1) krf (by exact⟨trivial,trivial,trivial⟩) rfl rfl (fun i hi j hj=>match i,hi,j,hj with|0,_,0,_=>krf|1,_,0,_=>krf ) (fun i hi j hj=>match i,hi,j,hj with|0,_,0,_=>trivial|1,_,0,_=>trivial )
 ·subst e3;exact bh (n:=1) (es:=1) krf (by exact⟨trivial,trivial⟩) rfl rfl (fun i hi j hj=>match i,hi,j,hj with|0,_,0,_=>krf ) (fun i hi j hj=>match i,hi,j,hj with|0,_,0,_=>trivial )
 ·subst e1 e2 e3 f;exact bh (n:=3) (es:=2) krf (by exact⟨⟨⟨trivial,trivial⟩,trivial⟩,⟨⟨trivial,trivial⟩,trivial⟩,⟨⟨trivial,trivial⟩,trivial⟩,trivial⟩) rfl rfl (fun i hi j hj=>match i,hi,j,hj with|0,_,0,_=>krf|0,_,1,_=>krf|1,_,0,_=>krf|1,_,1,_=>krf|2,_,0,_=>krf|2,_,1,_=>krf ) (fun i hi j hj=>match i,hi,j,hj with|0,_,0,_=>trivial|0,_,1,_=>trivial|1,_,0,_=>trivial|1,_,1,_=>trivial|2,_,0,_=>trivial|2,_,1,_=>trivial )
 ·refine(av (aS _ _ rfl trivial rfl rfl rfl) (yv krf))
theorem dX:aJ tA=true:=by kernel_rfl
theorem rx:aJ tB=true:=by kernel_rfl
theorem xI:(ak tA).1=[⟨0,[0]⟩,⟨-1,[2,3]⟩,⟨1,[1]⟩]:=by kernel_rfl
theorem ry:(cE tA (ak tA).2).l=[2,2,1,1,3,3]:=by kernel_rfl
theorem rz:ck tA=[1,12,2,48]:=by kernel_rfl
theorem xJ:(ak (az tA (hgP tA 1))).2 1=2:=by kernel_rfl
theorem xK:(dw (hgP tA 1) (aV (hgP tA 1) tA.rules.l 0) (ak (az tA (hgP tA 1))).1).l.map cU=tS.l.map cU:=by kernel_rfl
theorem xL:(bo (dx tB)).length<=10:=by decide
theorem rA:stP tB 9=[6,5]:=by kernel_rfl
def tT:KL Step:=⟨[⟨1,tS3⟩],.opn⟩
def tV:KL Int:=⟨[2,2,1,1,3,3],.exa⟩
def tO1:KL Int:=⟨[0],.exa⟩
def tO2:KL Int:=⟨[2,3],.exa⟩
def tO3:KL Int:=⟨[1],.exa⟩
def tO4:KL Int:=⟨[4,5],.exa⟩
def tO (i:Nat):KL Int:=[tO1,tO2,tO3,tO4].getD i ⟨[],.nil⟩
def tM1:KL Int:=⟨[1,2],.exa⟩
def tM2:KL Int:=⟨[0,2],.exa⟩
def tM (i:Nat):KL Int:=[tM1,tM2].getD i ⟨[],.nil⟩
theorem xM:cV tA (fun _=>3) (tT.l.getD 0 default)=false:=by kernel_rfl
theorem xN:(bB (ak tA).1).l.map cU=tS.l.map cU:=by kernel_rfl
theorem xO:∀i,((bB (ak tA).1).l.getD i default).atoms.l.length<1000000:=by
 intro i
 match i with
 |0=>exact of_decide_eq_true krf
 |1=>exact of_decide_eq_true krf
 |2=>exact of_decide_eq_true krf
 |_+3=>exact of_decide_eq_true krf
theorem xP:∀i,((dw (hgP tA 1) (aV (hgP tA 1) tA.rules.l 0) (ak (az tA (hgP tA 1))).1).l.getD i default).atoms.l.length<1000000:=by
 intro i
 match i with
 |0=>exact of_decide_eq_true krf
 |1=>exact of_decide_eq_true krf
 |2=>exact of_decide_eq_true krf
 |_+3=>exact of_decide_eq_true krf
theorem jy {s:Nat}:(aj s).l.length<1000000:=by
 show(bo s).length<1000000
 rw[gm]
 have:=gl s
 omega
def lsX (n:Nat)(b:Nat->KL Int):AV:=.fz .exa 1 n (fun i _=>ag (b i))
theorem ns (R:Res)(n:Nat)(a b:Nat->KL Int)(hp:List AObj)(g:R.σ)(hn:n<1000000)(h:∀i,i<n->(a i).l=(b i).l)(hl:∀i,(a i).l.length<1000000) :
  Does Tryd.prog R 29 [cw n a,.fz .exa 1 n (fun i _=>ag (b i))] hp g (.ret (.bool true)) hp g:=by
 refine bW (fun R g=>?_) (by exact⟨trivial,trivial,trivial⟩) R hp g
 refine spW (nt:=34) (rs:=[.tmp 4]) (k0:=0) ?_
 refine vcR [] (lkL [(0,[0,1]),(1,[0,1,5])]) (fun _=>[]) (fun (Q:AEx->St R.σ->Prop)=>WpC Tryd.prog R 34 0 29 [1,0,1,0] Q [Kont.blk 0,Kont.seq [1,1]] (St.mk [(0,cw n a),(1,fz Fz.exa 1 n fun (i x:Nat)=>ag (b i)),(5,int i64 0)] [] g)) (?_)
 refine(bq krf (fun (i:Nat)=>⟨[(0,cw n a),(1,fz Fz.exa 1 n fun (i x:Nat)=>ag (b i)),(5,.int .i64 i)],[],g⟩) (fun (i:Nat)=>(i<=n)) (fun (i:Nat)=>(n-i)) 0 (bg ⟨yu _,yu _,(yv krf),trivial⟩ rfl rfl) ?_ (fun i hi=>?_))
 ·omega
 ·have h1:=hl i
  refine vcR [] (lkL [(2,[0,1,5,16]),(4,[0,1,5,28]),(5,[4]),(3,[0,1,5])]) (lkL [(4,[(8,ROrc.pcall (AV.bool (decide ((a i).l=(b i).l))))])]) (fun Q=>(fun (u1:Bool)=>(fun (u2:Int)=>(u1=true->Flw Tryd.prog/\(0<=u2/\u2<(↑n:Int))/\1<=1/\(0<=u2/\u2<(↑n:Int))/\1<=1/\(∀(hp:List AObj) (g:R.σ),true=true/\Does Tryd.prog R 33 [ag (a i),ag (b i)] hp g (ret (AV.bool (decide ((a i).l=(b i).l)))) hp g)/\((!decide ((a i).l=(b i).l))=true->Q AEx.ret (St.mk [(4,AV.bool false)] [] g))/\((!decide ((a i).l=(b i).l))=false->(-9223372036854775808<=u2+1/\u2+1<=9223372036854775807)/\Q AEx.normal (St.mk [(0,cw n a),(1,fz Fz.exa 1 n fun i x=>ag (b i)),(5,int i64 (u2+1))] [] g)))/\(u1=false->Q (AEx.exit 0) (St.mk [(0,cw n a),(1,fz Fz.exa 1 n fun i x=>ag (b i)),(5,int i64 u2),(16,AV.bool u1)] [] g))) ((↑i:Int))) (bif decide ((↑i:Int)<(↑n:Int)) then(↑n:Int)==(↑n:Int) else false)) ⟨fun c1=>have c1:(↑i:Int)<(↑n:Int)/\(↑n:Int)=(↑n:Int):=⟨(of_decide_eq_true (fy c1).1),(beq_iff_eq.mp (fy c1).2)⟩;⟨krf,omg,omg,omg,omg,(fun _ _=>⟨rfl,(qb _ _ _ _ _ omg)⟩),fun c2=>have c2:¬(a i).l=(b i).l:=(of_decide_eq_false ((Bool.not_eq_true' _).mp c2));?_,fun c2=>have c2:(a i).l=(b i).l:=(of_decide_eq_true ((Bool.not_eq_false' _).mp c2));⟨omg,?_⟩⟩,fun c1=>have c1:¬(↑i:Int)<(↑n:Int)∨¬(↑n:Int)=(↑n:Int):=((j4 c1).imp (fun h=>(of_decide_eq_false h)) (fun h=>(beq_eq_false_iff_ne.mp h)));?_⟩
  ·exact absurd (h i omg) c2
  ·refine(aY (i+1) (bg ⟨yu _,yu _,(yv krf),trivial⟩ rfl rfl) ?_ ?_)
   ·omega
   ·omega
  ·refine⟨_,yG _,vcR [] (lkL [(6,[4])]) (fun _=>[]) (fun (Q:AEx->St R.σ->Prop)=>Q AEx.ret (St.mk [(4,AV.bool ((↑n:Int)==(↑n:Int)))] [] g)) (?_)⟩
   refine(av (aS _ _ rfl trivial rfl rfl rfl) (yv ?_))
   show(AV.bool ((↑n:Int)==(↑n:Int)))=_
   show AV.bool _=AV.bool _
   simp
theorem xQ (R:Res)[Tab LT R](g:R.σ):Does Tryd.prog R 15 [] [] g (.ret (.bool true)) [] g:=by
 have hD:∀(R:Res) [Tab LT R] (g:R.σ),Does Tryd.prog R 17 [aq tA] [] g (.ret (.tup 3 (nth [ay (bB (ak tA).1),ag (cE tA (ak tA).2),.int .i64 0]))) [] g:=fun R _ g=>qP R tA dX g
 have hW:∀(R:Res) [Tab LT R] (g:R.σ),Does Tryd.prog R 23 [aq tA,ay tT] [] g (.ret (.tup 2 (nth [.int .i64 0,.int .i64 7]))) [] g:=fun R _ g=>xa R tA tT dX dcd dcd xM g
 have hO:∀(R:Res) [Tab LT R] (g:R.σ),Does Tryd.prog R 31 [aq tA] [] g (.ret (.tup 2 (nth [cw 4 (fun i=>aj ((ck tA).getD i 0)),.int .i64 0]))) [] g:=fun R _ g=>by
  have h:=xA R tA dX g
  rw[show(ck tA).length=4 by rw[rz];rfl] at h
  exact h
 have hN:∀(R:Res) [Tab LT R] (g:R.σ),Does Tryd.prog R 25 [aq tA,.int .i64 1] [] g (.ret (.tup 3 (nth [.int .i64 2,ay (dw (hgP tA 1) (aV (hgP tA 1) tA.rules.l 0) (ak (az tA (hgP tA 1))).1),.int .i64 0]))) [] g:=fun R _ g=>by
  have h:=rg R tA 1 dX dcd g
  rw[show(1:Int).toNat=1 from rfl,xJ] at h
  exact h
 have hT:∀(R:Res) [Tab LT R] (g:R.σ),Does Tryd.prog R 27 [aq tB,.int .i64 9] [] g (.ret (.tup 2 (nth [cw 2 (fun i=>aj ((stP tB 9).getD i 0)),.int .i64 0]))) [] g:=fun R _ g=>by
  have h:=ru R tB 9 rx dcd xL g
  rw[show(stP tB 9).length=2 by rw[rA];rfl] at h
  exact h
 have hS1:∀(R:Res) (hp:List AObj) (g:R.σ),Does Tryd.prog R 20 [ay (bB (ak tA).1),ay tS] hp g (.ret (.bool true)) hp g:=fun R hp g=>by
  have h:=qd R (bB (ak tA).1) tS hp g (by rw[qO,xI];decide) xO
  rw[decide_eq_true xN] at h
  exact h
 have hV1:∀(R:Res) (hp:List AObj) (g:R.σ),Does Tryd.prog R 21 [ag (cE tA (ak tA).2),ag tV] hp g (.ret (.bool true)) hp g:=fun R hp g=>by
  have h:=qc R (cE tA (ak tA).2) tV hp g (by rw[ry];decide)
  rw[decide_eq_true (show(cE tA (ak tA).2).l=tV.l from ry)] at h
  exact h
 have hL1:∀(R:Res) (hp:List AObj) (g:R.σ),Does Tryd.prog R 29 [cw 4 (fun i=>aj ((ck tA).getD i 0)),lsX 4 tO] hp g (.ret (.bool true)) hp g:=fun R hp g=>ns R 4 _ _ hp g dcd (fun i hi=>by
  rw[rz]
  match i,hi with
  |0,_=>exact of_decide_eq_true krf
  |1,_=>exact of_decide_eq_true krf
  |2,_=>exact of_decide_eq_true krf
  |3,_=>exact of_decide_eq_true krf) (fun i=>jy)
 have hL2:∀(R:Res) (hp:List AObj) (g:R.σ),Does Tryd.prog R 29 [cw 2 (fun i=>aj ((stP tB 9).getD i 0)),lsX 2 tM] hp g (.ret (.bool true)) hp g:=fun R hp g=>ns R 2 _ _ hp g dcd (fun i hi=>by
  rw[rA]
  match i,hi with
  |0,_=>exact of_decide_eq_true krf
  |1,_=>exact of_decide_eq_true krf) (fun i=>jy)
 have hS2:∀(R:Res) (hp:List AObj) (g:R.σ),Does Tryd.prog R 20 [ay (dw (hgP tA 1) (aV (hgP tA 1) tA.rules.l 0) (ak (az tA (hgP tA 1))).1),ay tS] hp g (.ret (.bool true)) hp g:=fun R hp g=>by
  have h:=qd R (dw (hgP tA 1) (aV (hgP tA 1) tA.rules.l 0) (ak (az tA (hgP tA 1))).1) tS hp g (of_decide_eq_true krf) xP
  rw[decide_eq_true xK] at h
  exact h
 have hA:∀(R:Res) (hp:List AObj) (g:R.σ),Does Tryd.prog R 44 [] hp g (.ret (aq tA)) hp g:=fun R hp g=>c_A R hp g
 have hB:∀(R:Res) (hp:List AObj) (g:R.σ),Does Tryd.prog R 45 [] hp g (.ret (aq tB)) hp g:=fun R hp g=>c_B R hp g
 have hC:∀(R:Res) (hp:List AObj) (g:R.σ),Does Tryd.prog R 57 [] hp g (.ret (ay tS)) hp g:=fun R hp g=>xH R hp g
 obtain⟨n1,e1⟩:∃v,v=ay (bB (ak tA).1):=⟨_,rfl⟩
 obtain⟨n2,e2⟩:∃v,v=ag (cE tA (ak tA).2):=⟨_,rfl⟩
 obtain⟨n3,e3⟩:∃v,v=cw 4 (fun i=>aj ((ck tA).getD i 0)):=⟨_,rfl⟩
 obtain⟨n4,e4⟩:∃v,v=ay (dw (hgP tA 1) (aV (hgP tA 1) tA.rules.l 0) (ak (az tA (hgP tA 1))).1):=⟨_,rfl⟩
 obtain⟨n5,e5⟩:∃v,v=cw 2 (fun i=>aj ((stP tB 9).getD i 0)):=⟨_,rfl⟩
 simp only[<-e1,<-e2,<-e3,<-e4,<-e5] at hD hO hN hT hS1 hV1 hL1 hL2 hS2
 obtain⟨a,ha⟩:∃v,v=tA:=⟨_,rfl⟩
 obtain⟨b,hb⟩:∃v,v=tB:=⟨_,rfl⟩
 obtain⟨s,hs⟩:∃v,v=tS:=⟨_,rfl⟩
 obtain⟨t,ht⟩:∃v,v=tT:=⟨_,rfl⟩
 obtain⟨v,hv⟩:∃v,v=tV:=⟨_,rfl⟩
 rw[<-ha] at hA hD hW hO hN
 rw[<-hb] at hB hT
 rw[<-hs] at hC hS1 hS2
 rw[<-ht] at hW
 rw[<-hv] at hV1
 obtain⟨o1,w1⟩:∃v,v=tO1:=⟨_,rfl⟩
 obtain⟨o2,w2⟩:∃v,v=tO2:=⟨_,rfl⟩
 obtain⟨o3,w3⟩:∃v,v=tO3:=⟨_,rfl⟩
 obtain⟨o4,w4⟩:∃v,v=tO4:=⟨_,rfl⟩
 obtain⟨m1,w5⟩:∃v,v=tM1:=⟨_,rfl⟩
 obtain⟨m2,w6⟩:∃v,v=tM2:=⟨_,rfl⟩
 obtain⟨q1,w7⟩:∃v,v=tO:=⟨_,rfl⟩
 obtain⟨q2,w8⟩:∃v,v=tM:=⟨_,rfl⟩
 rw[<-w7] at hL1
 rw[<-w8] at hL2
 refine spW (nt:=97) (rs:=[.tmp 0]) (k0:=0) ?_
 refine vcR [[1,1,1,1,1,1,0,1,0]] (lkL [(1,[1,2,3]),(2,[1,2,3,4,5]),(3,[1,2,3,4,5,6,7]),(4,[1,2,3,4,5,6,7,8,9,10]),(5,[1,2,3,4,5,6,7,8,9,10,11,12]),(6,[1,2,4,6,8,9,11,59]),(8,[0])]) (lkL [(1,[(0,ROrc.pcall (aq a)),(1,ROrc.kcall (tup 3 (nth [n1,n2,int i64 0])))]),(2,[(0,ROrc.pcall (aq a)),(1,ROrc.pcall (ay s)),(2,ROrc.kop (ay t)),(3,ROrc.kcall (tup 2 (nth [int i64 0,int i64 7])))]),(3,[(0,ROrc.pcall (aq a)),(1,ROrc.kcall (tup 2 (nth [n3,int i64 0])))]),(4,[(0,ROrc.pcall (aq a)),(1,ROrc.kcall (tup 3 (nth [int i64 2,n4,int i64 0])))]),(5,[(0,ROrc.pcall (aq b)),(1,ROrc.kcall (tup 2 (nth [n5,int i64 0])))]),(8,[(1,ROrc.pcall (ay s)),(2,ROrc.pcall (AV.bool true)),(5,ROrc.kop (ag v)),(6,ROrc.pcall (AV.bool true)),(14,ROrc.kop (ag o1)),(15,ROrc.kop (ag o2)),(16,ROrc.kop (ag o3)),(17,ROrc.kop (ag o4)),(18,ROrc.kop (lsX 4 q1)),(19,ROrc.pcall (AV.bool true)),(27,ROrc.pcall (ay s)),(28,ROrc.pcall (AV.bool true)),(32,ROrc.kop (ag m1)),(33,ROrc.kop (ag m2)),(34,ROrc.kop (lsX 2 q2)),(35,ROrc.pcall (AV.bool true))])]) (fun Q=>(fun (u1:List Row)=>(fun (u2:List Row)=>(fun (u3:List (Nat × AV))=>(fun (u4:List Row)=>(fun (u5:Operand)=>(fun (u6:Nat × Bool)=>(fun (u7:List Edge)=>(fun (u8:Operand)=>(fun (u9:List Row)=>(fun (u10:Operand)=>(fun (u11:List Row)=>(∀(hp:List AObj) (g:R.σ),true=true/\Does Tryd.prog R 44 [] hp g (ret (aq a)) hp g)/\(true=true/\Does Tryd.prog R 17 [aq a] [] g (ret (tup 3 (nth [n1,n2,int i64 0]))) [] g)/\(∀(hp:List AObj) (g:R.σ),true=true/\Does Tryd.prog R 44 [] hp g (ret (aq a)) hp g)/\(∀(hp:List AObj) (g:R.σ),true=true/\Does Tryd.prog R 57 [] hp g (ret (ay s)) hp g)/\OpOk Tryd.prog R (Oper.mk (some 22) (Op.slice 29 (Operand.tmp 21) (some u5) none none) 29 "law.go:36" #[Edge.mk 1 Ground.data] none) (evO [Row.mk (some 21) none (ay s) false (some []) [],Row.mk (some 20) none (aq a) false (some []) []] [(1,n1),(2,n2),(3,int i64 0)] []) [] g (ay t) [] g/\(true=true/\Does Tryd.prog R 23 [aq a,ay t] [] g (ret (tup 2 (nth [int i64 0,int i64 7]))) [] g)/\(∀(hp:List AObj) (g:R.σ),true=true/\Does Tryd.prog R 44 [] hp g (ret (aq a)) hp g)/\(true=true/\Does Tryd.prog R 31 [aq a] [] g (ret (tup 2 (nth [n3,int i64 0]))) [] g)/\(∀(hp:List AObj) (g:R.σ),true=true/\Does Tryd.prog R 44 [] hp g (ret (aq a)) hp g)/\(true=true/\Does Tryd.prog R 25 [aq a,int i64 1] [] g (ret (tup 3 (nth [int i64 2,n4,int i64 0]))) [] g)/\(∀(hp:List AObj) (g:R.σ),true=true/\Does Tryd.prog R 45 [] hp g (ret (aq b)) hp g)/\(true=true/\Does Tryd.prog R 27 [aq b,int i64 9] [] g (ret (tup 2 (nth [n5,int i64 0]))) [] g)/\(false=true->WpC Tryd.prog R 97 0 15 [1,1,1,1,1,1,0,1,0] Q [Kont.seq [1,1,1,1,1,1,1]] (St.mk u3 [] g))/\(false=false->(∀(hp:List AObj) (g:R.σ),true=true/\Does Tryd.prog R 57 [] hp g (ret (ay s)) hp g)/\(∀(hp:List AObj) (g:R.σ),true=true/\Does Tryd.prog R 20 [n1,ay s] hp g (ret (AV.bool true)) hp g)/\(true=true->OpOk Tryd.prog R (Oper.mk (some 65) (Op.buildSlice 33 6 #[(0,u5),(1,u5),(2,u8),(3,u8),(4,u10),(5,u10)]) 33 "law.go:43" #[Edge.mk 3 Ground.guard] (some (3,true))) (evO [Row.mk (some 64) (some (3,true)) n2 false (some []) [],Row.mk (some 63) none (AV.bool true) false (some []) [],Row.mk (some 62) none (AV.bool true) false (some []) [],Row.mk (some 61) none (ay s) false (some []) [],Row.mk (some 60) none n1 false (some []) []] u3 [(3,true)]) [] g (ag v) [] g)/\(true=true->∀(hp:List AObj) (g:R.σ),true=true/\Does Tryd.prog R 21 [n2,ag v] hp g (ret (AV.bool true)) hp g)/\(true=true->OpOk Tryd.prog R (Oper.mk (some 74) (Op.buildSlice 53 1 #[(0,Operand.const (Value.int i64 0))]) 53 "law.go:43" (List.toArray u7) (some u6)) (evO u1 u3 [u6]) [] g (ag o1) [] g)/\(true=true->OpOk Tryd.prog R (Oper.mk (some 75) (Op.buildSlice 53 2 #[(0,u5),(1,u10)]) 53 "law.go:43" (List.toArray u7) (some u6)) (evO (Row.mk (some 74) (some u6) (ag o1) true (some []) []::u1) u3 [u6]) [] g (ag o2) [] g)/\(true=true->OpOk Tryd.prog R (Oper.mk (some 76) (Op.buildSlice 53 1 #[(0,u8)]) 53 "law.go:43" (List.toArray u7) (some u6)) (evO u4 u3 [u6]) [] g (ag o3) [] g)/\(true=true->OpOk Tryd.prog R (Oper.mk (some 77) (Op.buildSlice 53 2 #[(0,Operand.const (Value.int i64 4)),(1,Operand.const (Value.int i64 5))]) 53 "law.go:43" (List.toArray u7) (some u6)) (evO u11 u3 [u6]) [] g (ag o4) [] g)/\(true=true->OpOk Tryd.prog R (Oper.mk (some 78) (Op.buildSlice 49 4 #[(0,Operand.tmp 74),(1,Operand.tmp 75),(2,Operand.tmp 76),(3,Operand.tmp 77)]) 49 "law.go:43" (List.toArray (Edge.mk 14 Ground.data::Edge.mk 15 Ground.data::Edge.mk 16 Ground.data::Edge.mk 17 Ground.data::u7)) (some u6)) (evO (Row.mk (some 77) (some u6) (ag o4) true (some []) []::u11) u3 [u6]) [] g (fz Fz.exa 1 4 fun i x=>ag (q1 i)) [] g)/\(true=true->∀(hp:List AObj) (g:R.σ),true=true/\Does Tryd.prog R 29 [n3,fz Fz.exa 1 4 fun i x=>ag (q1 i)] hp g (ret (AV.bool true)) hp g)/\(true=true->∀(hp:List AObj) (g:R.σ),true=true/\Does Tryd.prog R 57 [] hp g (ret (ay s)) hp g)/\(true=true->∀(hp:List AObj) (g:R.σ),true=true/\Does Tryd.prog R 20 [n4,ay s] hp g (ret (AV.bool true)) hp g)/\(true=true->OpOk Tryd.prog R (Oper.mk (some 92) (Op.buildSlice 53 2 #[(0,u8),(1,u5)]) 53 "law.go:43" #[Edge.mk 30 Ground.guard] (some (30,true))) (evO u2 u3 [(30,true)]) [] g (ag m1) [] g)/\(true=true->OpOk Tryd.prog R (Oper.mk (some 93) (Op.buildSlice 53 2 #[(0,Operand.const (Value.int i64 0)),(1,u5)]) 53 "law.go:43" #[Edge.mk 30 Ground.guard] (some (30,true))) (evO u9 u3 [(30,true)]) [] g (ag m2) [] g)/\(true=true->OpOk Tryd.prog R (Oper.mk (some 94) (Op.buildSlice 49 2 #[(0,Operand.tmp 92),(1,Operand.tmp 93)]) 49 "law.go:43" #[Edge.mk 32 Ground.data,Edge.mk 33 Ground.data,Edge.mk 30 Ground.guard] (some (30,true))) (evO (Row.mk (some 93) (some (30,true)) (ag m2) true (some []) []::u9) u3 [(30,true)]) [] g (fz Fz.exa 1 2 fun i x=>ag (q2 i)) [] g)/\(true=true->∀(hp:List AObj) (g:R.σ),true=true/\Does Tryd.prog R 29 [n5,fz Fz.exa 1 2 fun i x=>ag (q2 i)] hp g (ret (AV.bool true)) hp g)/\Q AEx.ret (St.mk [(0,AV.bool true)] [] g))) (Row.mk (some 76) (some u6) (ag o3) true (some []) []::u4)) (Operand.const (Value.int i64 3))) (Row.mk (some 92) (some (30,true)) (ag m1) true (some []) []::u2)) (Operand.const (Value.int i64 1))) ([Edge.mk 12 Ground.guard])) ((12,true))) (Operand.const (Value.int i64 2))) (Row.mk (some 75) (some (12,true)) (ag o2) true (some []) []::Row.mk (some 74) (some (12,true)) (ag o1) true (some []) []::u1)) ([(1,n1),(2,n2),(4,int i64 0),(6,n3),(8,int i64 2),(9,n4),(11,n5),(59,AV.bool false)])) (Row.mk (some 91) (some (30,true)) n5 false (some []) []::Row.mk (some 90) none (AV.bool true) false (some []) []::Row.mk (some 89) none (AV.bool true) false (some []) []::Row.mk (some 88) (some (25,true)) (AV.bool true) false (some []) []::Row.mk (some 87) (some (25,true)) (ay s) false (some []) []::Row.mk (some 86) (some (25,true)) n4 false (some []) []::Row.mk (some 85) none (AV.bool true) false (some []) []::Row.mk (some 84) none (AV.bool true) false (some []) []::Row.mk (some 83) (some (21,true)) (AV.bool true) false (some []) []::Row.mk (some 82) (some (21,true)) (int i64 2) false (some []) []::Row.mk (some 81) none (AV.bool true) false (some []) []::Row.mk (some 80) none (AV.bool true) false (some []) []::Row.mk (some 79) (some (12,true)) (AV.bool true) false (some []) []::Row.mk (some 78) (some (12,true)) (fz Fz.exa 1 4 fun i x=>ag (q1 i)) true (some []) []::Row.mk (some 77) (some (12,true)) (ag o4) true (some []) []::Row.mk (some 76) (some (12,true)) (ag o3) true (some []) []::Row.mk (some 75) (some (12,true)) (ag o2) true (some []) []::Row.mk (some 74) (some (12,true)) (ag o1) true (some []) []::u1)) ([Row.mk (some 73) (some (12,true)) n3 false (some []) [],Row.mk (some 72) none (AV.bool true) false (some []) [],Row.mk (some 71) none (AV.bool true) false (some []) [],Row.mk (some 70) (some (8,true)) (AV.bool true) false (some []) [],Row.mk (some 69) (some (8,true)) (int i64 0) false (some []) [],Row.mk (some 68) none (AV.bool true) false (some []) [],Row.mk (some 67) none (AV.bool true) false (some []) [],Row.mk (some 66) (some (3,true)) (AV.bool true) false (some []) [],Row.mk (some 65) (some (3,true)) (ag v) true (some []) [],Row.mk (some 64) (some (3,true)) n2 false (some []) [],Row.mk (some 63) none (AV.bool true) false (some []) [],Row.mk (some 62) none (AV.bool true) false (some []) [],Row.mk (some 61) none (ay s) false (some []) [],Row.mk (some 60) none n1 false (some []) []])) ⟨(fun _ _=>⟨rfl,(hA _ _ _)⟩),⟨rfl,(hD _ _)⟩,(fun _ _=>⟨rfl,(hA _ _ _)⟩),(fun _ _=>⟨rfl,(hC _ _ _)⟩),?_,⟨rfl,(hW _ _)⟩,(fun _ _=>⟨rfl,(hA _ _ _)⟩),⟨rfl,(hO _ _)⟩,(fun _ _=>⟨rfl,(hA _ _ _)⟩),⟨rfl,(hN _ _)⟩,(fun _ _=>⟨rfl,(hB _ _ _)⟩),⟨rfl,(hT _ _)⟩,fun h=>(nomatch h),fun _=>⟨(fun _ _=>⟨rfl,(hC _ _ _)⟩),(fun _ _=>⟨rfl,(hS1 _ _ _)⟩),?_,(fun hgd=>(fun _ _=>⟨rfl,(hV1 _ _ _)⟩)),?_,?_,?_,?_,?_,(fun hgd=>(fun _ _=>⟨rfl,(hL1 _ _ _)⟩)),(fun hgd=>(fun _ _=>⟨rfl,(hC _ _ _)⟩)),(fun hgd=>(fun _ _=>⟨rfl,(hS2 _ _ _)⟩)),?_,?_,?_,(fun hgd=>(fun _ _=>⟨rfl,(hL2 _ _ _)⟩)),?_⟩⟩
 ·subst hs ht
  exact mn rfl (by exact⟨Nat.le_refl _,⟨dcd,dcd⟩,trivial⟩) (l9 rfl (fun i j hi hj=>match i,hi with|0,_=>rfl))
 ·intro _;subst hv;exact bh (n:=6) (es:=1) krf (by exact⟨trivial,trivial,trivial,trivial,trivial,trivial,trivial⟩) rfl rfl (fun i hi j hj=>match i,hi,j,hj with|0,_,0,_=>krf|1,_,0,_=>krf|2,_,0,_=>krf|3,_,0,_=>krf|4,_,0,_=>krf|5,_,0,_=>krf ) (fun i hi j hj=>match i,hi,j,hj with|0,_,0,_=>trivial|1,_,0,_=>trivial|2,_,0,_=>trivial|3,_,0,_=>trivial|4,_,0,_=>trivial|5,_,0,_=>trivial )
 ·intro _;subst w1;exact bh (n:=1) (es:=1) krf (by exact⟨trivial,trivial⟩) rfl rfl (fun i hi j hj=>match i,hi,j,hj with|0,_,0,_=>krf ) (fun i hi j hj=>match i,hi,j,hj with|0,_,0,_=>trivial )
 ·intro _;subst w2;exact bh (n:=2) (es:=1) krf (by exact⟨trivial,trivial,trivial⟩) rfl rfl (fun i hi j hj=>match i,hi,j,hj with|0,_,0,_=>krf|1,_,0,_=>krf ) (fun i hi j hj=>match i,hi,j,hj with|0,_,0,_=>trivial|1,_,0,_=>trivial )
 ·intro _;subst w3;exact bh (n:=1) (es:=1) krf (by exact⟨trivial,trivial⟩) rfl rfl (fun i hi j hj=>match i,hi,j,hj with|0,_,0,_=>krf ) (fun i hi j hj=>match i,hi,j,hj with|0,_,0,_=>trivial )
 ·intro _;subst w4;exact bh (n:=2) (es:=1) krf (by exact⟨trivial,trivial,trivial⟩) rfl rfl (fun i hi j hj=>match i,hi,j,hj with|0,_,0,_=>krf|1,_,0,_=>krf ) (fun i hi j hj=>match i,hi,j,hj with|0,_,0,_=>trivial|1,_,0,_=>trivial )
 ·intro _;subst w1 w2 w3 w4 w7;exact bh (n:=4) (es:=1) krf (by exact⟨trivial,trivial,trivial,trivial,trivial⟩) rfl rfl (fun i hi j hj=>match i,hi,j,hj with|0,_,0,_=>krf|1,_,0,_=>krf|2,_,0,_=>krf|3,_,0,_=>krf ) (fun i hi j hj=>match i,hi,j,hj with|0,_,0,_=>trivial|1,_,0,_=>trivial|2,_,0,_=>trivial|3,_,0,_=>trivial )
 ·intro _;subst w5;exact bh (n:=2) (es:=1) krf (by exact⟨trivial,trivial,trivial⟩) rfl rfl (fun i hi j hj=>match i,hi,j,hj with|0,_,0,_=>krf|1,_,0,_=>krf ) (fun i hi j hj=>match i,hi,j,hj with|0,_,0,_=>trivial|1,_,0,_=>trivial )
 ·intro _;subst w6;exact bh (n:=2) (es:=1) krf (by exact⟨trivial,trivial,trivial⟩) rfl rfl (fun i hi j hj=>match i,hi,j,hj with|0,_,0,_=>krf|1,_,0,_=>krf ) (fun i hi j hj=>match i,hi,j,hj with|0,_,0,_=>trivial|1,_,0,_=>trivial )
 ·intro _;subst w5 w6 w8;exact bh (n:=2) (es:=1) krf (by exact⟨trivial,trivial,trivial⟩) rfl rfl (fun i hi j hj=>match i,hi,j,hj with|0,_,0,_=>krf|1,_,0,_=>krf ) (fun i hi j hj=>match i,hi,j,hj with|0,_,0,_=>trivial|1,_,0,_=>trivial )
 ·refine(av (aS _ _ rfl trivial rfl rfl rfl) (yu _))
structure OrdAll (p:Prg)(n left:Nat)(L:List Nat):Prop where
 is:∀i,i<L.length->∃A,A<n/\L.getD i 0=au p A
 cov:∀a,left.testBit a=true->∃i,i<L.length/\(L.getD i 0).testBit a=true
 sub:∀i a,i<L.length->(L.getD i 0).testBit a=true->left.testBit a=true
 ord:∀i j a b,i<j->j<L.length->(L.getD i 0).testBit a=true->(L.getD j 0).testBit b=true->¬Reach p a b
structure CompOk (p:Prg)(n:Nat)(L:List Nat)(v:List Int):Prop where
 len:v.length=n
 at_:∀a,a<n->0<=v.getD a 0/\v.getD a 0<L.length
 up:∀a b,a<n->Reach p a b->b<n/\v.getD b 0<=v.getD a 0
 same:∀a b,a<n->(L.getD (v.getD a 0).toNat 0).testBit b=true->Reach p a b
def itB (D:List Bool->List Bool × Bool):Nat->List Bool->List Bool
 |0,s=>s
 |k+1,s=>if (D s).2 then itB D k (D s).1 else s
structure ItOk (D:List Bool->List Bool × Bool)(n:Nat)(T:List Bool)(x:List Bool × Bool):Prop where
 len:x.1.length=n
 go:x.2=true->∃f,g8 x.1<f/\itB D f x.1=T
 stop:x.2=false->x.1=T
def lc (n s:Nat):List Bool:=(List.range n).map fun j=>s.testBit j
structure ModC (p:Prg)(most n:Nat)(r:List Int):Prop where
 nn:∀(R:Res) (s:Nat) (g:R.σ),s<2^n->stF p most r s []=[]->Does Tryd.prog R 81 [aq p,g9 (lc n s),ag ⟨r,.may⟩,.int .i64 most,.fz .nil 0 0 (fun _ _=>.any)] [] g (.ret (.fz .nil 0 0 (fun _ _=>.any))) [] g
 nw:∀(R:Res) (s m:Nat) (L:List Nat) (g:R.σ),s<2^n->stF p most r s []=L->L≠[]->m=L.length->Does Tryd.prog R 81 [aq p,g9 (lc n s),ag ⟨r,.may⟩,.int .i64 most,.fz .nil 0 0 (fun _ _=>.any)] [] g (.ret (.ow true 0 m 1)) [.cells false (m*1) (aG L)] g
 on:∀(R:Res) (s m:Nat) (L:List Nat) (g:R.σ),s<2^n->L≠[]->m=L.length->m<=most->stF p most r s L=L->Does Tryd.prog R 81 [aq p,g9 (lc n s),ag ⟨r,.may⟩,.int .i64 most,.ow true 0 m 1] [.cells false (m*1) (aG L)] g (.ret (.ow true 0 m 1)) [.cells false (m*1) (aG L)] g
 ow:∀(R:Res) (s m m':Nat) (L L':List Nat) (g:R.σ),s<2^n->L≠[]->m=L.length->m<=most->stF p most r s L=L'->m'=L'.length->m≠m'->Does Tryd.prog R 81 [aq p,g9 (lc n s),ag ⟨r,.may⟩,.int .i64 most,.ow true 0 m 1] [.cells false (m*1) (aG L)] g (.ret (.ow true 1 m' 1)) [.dead,.cells false (m'*1) (aG L')] g
def nu (b:Nat->Bool)(i:Nat):Nat->AV:=fun j=>.bool (decide (j<i)&&b j)
theorem pU {k:Nat}(b:Nat->Bool)(i j:Nat):Below k (nu b i j):=trivial
theorem p6 {f:Nat->Nat}(h:True){b:Nat->Bool}{i j:Nat}:aE f (nu b i j)=nu b i j:=rfl
structure Set2 (p:Prg)(v:Nat->Int):Prop where
 dom:∀a,v a=1∨v a=2∨v a=3
 rng:∀a,v a≠3->a<p.atoms.toNat
 yes:∃(rk:Nat->Nat) (N:Nat),∀a,v a=2->rk a<N/\∃r,r∈p.rules.l/\r.head.toNat=a/\dr v r=true/\∀l,l∈r.body.l->l.neg=false->rk l.atom.toNat<rk a
 no:∀a,v a=1->∀r,r∈p.rules.l->r.head.toNat=a->∃l,l∈r.body.l/\b9 v l=1
structure Fin2 (p:Prg)(v:Nat->Int):Prop extends Set2 p v where
 fire:∀r,r∈p.rules.l->dr v r=true->v r.head.toNat=2
 unf:∀m:Nat->Bool,xr p v m->(∀j,m j=true->j<p.atoms.toNat/\v j=3)->∀j,m j=false
section
variable {R:Res}
theorem xR [Tab LT R]{nt k0 f0:Nat}{b:Code}{p:List Nat}{Q:AEx->St R.σ->Prop}{s:St R.σ}(t:Nat)(psl:List Nat)(m:Nat)(hrl:gU t psl (sub b p)=true){fa fb:Nat->AV}(hf:lk s.fr t=.fn 105 0 fa 1 fb)(hfb:fb 0=.ref m 0)
  (S K:Nat) (hS:S<2^24) (H:List AObj) (h0:To R k0 s ⟨s.fr,H++[.cells false 1 (fun _=>.int .u64 S)],s.g⟩) (hl:H.length=m)
  (hlive:dg (H++[.cells false 1 (fun _=>.int .u64 S)])) (hBO:eF m H) (hlen:1=psl.length) (hlt:bt psl nt=true) (ts:List Nat) (hBf:fB ts (fun t=>Below m (lk s.fr t)))
  (hround:∀k l,k<K->k<(ai S).length->Wp Tryd.prog R nt m (.inr l) b (p++[0]) (mm Tryd.prog R nt m l b (p++[1]) none H s.g) ⟨cv psl [.int .i64 (((ai S).getD k 0:Nat):Int)] (dq ts s.fr),H,s.g⟩)
  (hKl:K<(ai S).length) (hlast:∀l,Wp Tryd.prog R nt (m+1) (.inr l) b (p++[0]) (rq Tryd.prog R nt l b (p++[1]) ((Tryd.prog.funcs[f0]?).isSome=true) (fun e s3=>Q e ⟨s.fr,s3.hp,s3.g⟩)) ⟨cv psl [.int .i64 (((ai S).getD K 0:Nat):Int)] s.fr,H++[.dead],s.g⟩) :
  WpB Tryd.prog R nt k0 f0 b p Q s:=by
 obtain⟨ps,assign,body,hc,rfl⟩:∃ps assign body,sub b p=.rangeFunc (.tmp t) ps assign body/\ps.toList=psl:=by
  unfold gU at hrl
  split at hrl
  ·rename_i u ps assign body hs
   simp only[Bool.and_eq_true] at hrl
   have:=Nat.eq_of_beq_eq_true hrl.1
   subst this
   exact⟨ps,assign,body,hs,iT hrl.2⟩
  ·cases hrl
 have e0:sub b (p++[0])=assign:=by rw[b8,hc];exact cz assign
 have e1:sub b (p++[1])=body:=by rw[b8,hc];exact cz body
 refine uP h0 ⟨fun C hC n a w hH=>?_⟩
 rw[hc]
 refine uK rfl (rp (s:=⟨s.fr,H++[.cells false 1 (fun _=>.int .u64 S)],s.g⟩) (K:=K) hf hfb hS rfl hl hlive hBO hlen hlt ts hBf (fun k hk hkN l=>?_) (fun _ l=>?_) (fun h=>absurd hKl omg) hC hH)
 ·have h1:=(hround k l hk hkN).h
  rw[e0] at h1
  rw[show(St.hp ⟨cv ps.toList [.int .i64 (((ai S).getD k 0:Nat):Int)] (dq ts s.fr),H,s.g⟩).length=m from hl]
  refine gJ h1 (fun e s' hq=>?_)
  cases e with
  |normal=>
   have h2:=(show Wp _ _ _ _ _ _ _ _ _ from hq).h
   rw[e1] at h2
   exact⟨rfl,h2⟩
  |exit id=>exact hq.elim
  |ret=>exact hq.elim
  |pan v=>exact hq.elim
 ·have h1:=(hlast l).h
  rw[e0] at h1
  refine gJ h1 (fun e s' hq=>?_)
  cases e with
  |normal=>
   have h2:=(show Wp _ _ _ _ _ _ _ _ _ from hq).h
   rw[e1] at h2
   exact⟨rfl,h2⟩
  |exit id=>exact hq.elim
  |ret=>exact hq.elim
  |pan v=>exact hq.elim
end
theorem xS (R:Res)[Tab LT R](p:Prg)(v:Nat->Int)(es:List (Value × AV))(s:Step)(hl:p.rules.l.length<1000000)(hr:∀r,r∈p.rules.l->aK r)(hes:HeadsOk es p.rules.l)(hp:1<=p.atoms/\p.atoms<=24)(hsl:s.atoms.l.length<1000000)(hc:cW p v s.atoms.l=true)(hn:dH p v (aR s.atoms.l)=false)(g:R.σ):Does Tryd.prog R 139 [bb s,.ref 0 0] [.cells false 27 (ad p v (.mp 1)),.map es] g (.pan (.ifc 145 (.agg 0 (nth [])))) [.cells false 27 (ad p v (.mp 1)),.map es] g:=by
 unfold cW at hc
 rw[Bool.and_eq_true,decide_eq_true_eq,List.all_eq_true] at hc
 have h0:(s.atoms.l.length:Int) > 0:=by omega
 have hck:∀j,j<s.atoms.l.length->fc p v s.atoms.l j=true:=fun j hj=>hc.2 j (List.mem_range.2 hj)
 refine uR (nt:=79) (k0:=2) krf krf rfl ?_
 refine i6 krf ?_
 refine vcR [] (lkL [(0,[2,3])]) (fun _=>[]) (fun (Q:AEx->St R.σ->Prop)=>Q AEx.normal (St.mk [(2,ref 2 0),(3,ref 3 0)] [cells false 27 (ad p v (AV.mp 1)),AObj.map es,cells false 2 (nth [int i64 s.rule,ag s.atoms]),cells false 1 fun (a:Nat)=>ref 0 0] g)) (?_)
 show WpB _ _ _ _ _ _ _ _ _
 refine i6 krf ?_
 refine vcR [] (lkL [(1,[2,3])]) (lkL [(1,[(5,ROrc.pcall (tup 0 (nth [])))])]) (fun Q=>2<=2/\(∀(hp:List AObj) (g:R.σ),true=true/\Does Tryd.prog R 140 [AV.bool (decide ((↑(List.length s.atoms.l):Int) > 0))] hp g (ret (tup 0 (nth []))) hp g)/\Q AEx.normal (St.mk [(2,ref 2 0),(3,ref 3 0)] [cells false 27 (ad p v (AV.mp 1)),AObj.map es,cells false 2 (nth [int i64 s.rule,ag s.atoms]),cells false 1 fun a=>ref 0 0] g)) ⟨omg,(fun _ _=>⟨rfl,(dt _ _ (by simp at * <;> omega) _ _)⟩),?_⟩
 show WpB _ _ _ _ _ _ _ _ _
 refine i6 krf ?_
 refine vcR [] (lkL [(2,[2,3,4])]) (fun _=>[]) (fun (Q:AEx->St R.σ->Prop)=>Q AEx.normal (St.mk [(2,ref 2 0),(3,ref 3 0),(4,ref 4 0)] [cells false 27 (ad p v (AV.mp 1)),AObj.map es,cells false 2 (nth [int i64 s.rule,ag s.atoms]),cells false 1 fun (a:Nat)=>ref 0 0,cells false 1 fun (a:Nat)=>int u64 0] g)) (?_)
 show WpB _ _ _ _ _ _ _ _ _
 refine i6 krf ?_
 refine vcR [] (lkL [(3,[2,3,4,17,18,19])]) (fun _=>[]) (fun Q=>2<=2/\WpC Tryd.prog R 79 2 139 [1,1,1,0,1,0] Q [Kont.blk 0] (St.mk [(2,ref 2 0),(3,ref 3 0),(4,ref 4 0),(17,ag s.atoms),(18,int i64 (↑(List.length s.atoms.l):Int)),(19,int i64 0)] [cells false 27 (ad p v (AV.mp 1)),AObj.map es,cells false 2 (nth [int i64 s.rule,ag s.atoms]),cells false 1 fun a=>ref 0 0,cells false 1 fun a=>int u64 0] g)) ⟨omg,?_⟩
 refine(bq krf (fun (i:Nat)=>⟨[(2,ref 2 0),(3,ref 3 0),(4,ref 4 0),(17,ag s.atoms),(18,int i64 (s.atoms.l.length:Int)),(19,.int .i64 i)],[.cells false 27 (ad p v (.mp 1)),.map es,.cells false 2 (nth [.int .i64 s.rule,ag s.atoms]),.cells false 1 (fun _=>.ref 0 0),.cells false 1 (fun _=>.int .u64 (aR (s.atoms.l.take i)))],g⟩) (fun (i:Nat)=>(i<=s.atoms.l.length/\aR (s.atoms.l.take i)<2^24)) (fun (i:Nat)=>(s.atoms.l.length-i)) 0 (toL (h1:=⟨yu _,yu _,yu _,yu _,yu _,(yv krf),trivial⟩)) ?_ (fun i hi=>?_))
 ·exact⟨Nat.zero_le _,(by decide:(0:Nat)<2^24)⟩
 ·obtain⟨h1,h2⟩:=hi
  rcases Nat.lt_or_ge i s.atoms.l.length with hlt|hge
  ·have hx:=mH hlt
   have hm:=hck i hlt
   have hm':(bif ef p s.atoms.l i then v (s.atoms.l.getD i 0).toNat==3 else false)=true:=hm
   have hA:=kB (mG hm)
   refine vcR [] (lkL [(4,[2,3,4,17,18,19,20]),(5,[2,3,4,5,6,17,18,19]),(6,[2,3,4,6,17,18,19]),(7,[2,3,4,17,18,19]),(8,[2,3,4,17,18,19])]) (lkL [(6,[(7,ROrc.pcall (AV.bool (decide (0<=List.getD s.atoms.l i 0/\List.getD s.atoms.l i 0<=p.atoms-1)))),(29,ROrc.kop (int i64 (v (Int.toNat (List.getD s.atoms.l i 0))))),(32,ROrc.pcall (tup 0 (nth [])))]),(7,[(2,ROrc.pcall (int u64 (↑(2^Int.toNat (List.getD s.atoms.l i 0)):Int))),(4,ROrc.val (Orc.obj (nth [int u64 (IntKind.wrap u64 (↑(BitVec.toNat (BitVec.ofInt 64 (↑(aR (List.take i s.atoms.l)):Int)|||BitVec.ofInt 64 (↑(2^Int.toNat (List.getD s.atoms.l i 0)):Int))):Int))])))])]) (fun Q=>(fun (u1:Int)=>(fun (u2:Int)=>(fun (u3:Bool)=>(fun (u4:List AObj)=>(fun (u5:AV)=>(fun (u6:Int)=>(fun (u7:Int)=>(fun (u8:Bool)=>(fun (u9:Option (List Nat))=>(fun (u10:Option (Nat × Bool))=>(decide (u7<u6)=true->(0<=u7/\u7<u6)/\1<=1/\1<=1/\1<=27/\(-9223372036854775808<=p.atoms-1/\p.atoms-1<=9223372036854775807)/\(∀(hp:List AObj) (g:R.σ),true=true/\Does Tryd.prog R 58 [int i64 u1,int i64 0,int i64 (p.atoms-1)] hp g (ret (AV.bool u8)) hp g)/\((u8 && !u7==0)=true->2<=2)/\((u8 && !u7==0)=true -> -9223372036854775808<=u7-1/\u7-1<=9223372036854775807)/\((u8 && !u7==0)=true->0<=u7-1/\u7-1<u6)/\((u8 && !u7==0)=true->1<=1)/\(u3=true->1<=1)/\(u3=true->0<=u1/\u1<(↑24:Int))/\(u3=true->OpOk Tryd.prog R (Oper.mk (some 53) (Op.load 43 (Operand.tmp 52)) 43 "table.go:155" #[Edge.mk 28 Ground.data,Edge.mk 23 Ground.guard] (some (23,true))) (evO [Row.mk (some 52) (some (23,true)) (ref 0 (Int.toNat u1+2)) false u9 [],Row.mk (some 51) (some (23,true)) (ref 0 2) false u9 [],Row.mk (some 50) (some (23,true)) (ref 0 0) false u9 [],Row.mk (some 49) (some (23,true)) (int i64 u1) false u9 [],Row.mk (some 48) (some (23,true)) (ref 0 0) false u9 [3],Row.mk (some 47) none (AV.bool u3) false u9 [],Row.mk (some 46) none (AV.bool u3) false u9 [],Row.mk (some 45) (some (8,true)) (AV.bool (bif u7==0 then true else decide (u1 > u2))) false u9 [],Row.mk (some 44) u10 (AV.bool (decide (u1 > u2))) false u9 [],Row.mk (some 43) u10 (int i64 u2) false u9 [],Row.mk (some 42) u10 (fp 1 fun x=>int i64 u2) false u9 [],Row.mk (some 41) u10 (int i64 (u7-1)) false u9 [],Row.mk (some 40) u10 (int i64 u7) false u9 [],Row.mk (some 39) u10 (ag s.atoms) false u9 [2],Row.mk (some 38) u10 (ref 2 1) false u9 [],Row.mk (some 37) u10 (ref 2 0) false u9 [],Row.mk (some 36) u10 (int i64 u1) false u9 [],Row.mk (some 35) (some (8,true)) (AV.bool (u7==0)) false u9 [],Row.mk (some 34) (some (8,true)) (AV.bool (u7==0)) false u9 [],Row.mk (some 33) (some (8,true)) (int i64 u7) false u9 [],Row.mk (some 32) none (AV.bool u8) false u9 [],Row.mk (some 31) none (AV.bool u8) false u9 [],Row.mk (some 30) none (int i64 (p.atoms-1)) false u9 [],Row.mk (some 29) none (int i64 p.atoms) false u9 [0],Row.mk (some 28) none (ref 0 0) false u9 [],Row.mk (some 27) none (ref 0 0) false u9 [],Row.mk (some 26) none (ref 0 0) false u9 [],Row.mk (some 25) none (ref 0 0) false u9 [3],Row.mk (some 24) none (int i64 u1) false u9 []] [(2,ref 2 0),(3,ref 3 0),(4,ref 4 0),(5,int i64 u7),(6,int i64 u1),(17,ag s.atoms),(18,int i64 u6),(19,int i64 u7)] [(23,true)]) u4 g (int i64 (v (Int.toNat u1))) u4 g)/\(∀(hp:List AObj) (g:R.σ),true=true/\Does Tryd.prog R 140 [AV.bool (bif u3 then v (Int.toNat u1)==3 else false)] hp g (ret (tup 0 (nth []))) hp g)/\Flw Tryd.prog/\1<=1/\(∀(hp:List AObj) (g:R.σ),true=true/\Does Tryd.prog R 79 [int i64 u1] hp g (ret (int u64 (↑(2^Int.toNat u1):Int))) hp g)/\1<=1/\(∀(c:Nat),c<1->nth [u5] c=al (fun (x:Nat)=>int u64 (↑(aR (List.take i s.atoms.l)):Int)) 0 1 (fun (x:Nat)=>u5) c)/\(-9223372036854775808<=u7+1/\u7+1<=9223372036854775807)/\Q AEx.normal (St.mk [(2,ref 2 0),(3,ref 3 0),(4,ref 4 0),(17,ag s.atoms),(18,int i64 u6),(19,int i64 (u7+1))] [cells false 27 (ad p v (AV.mp 1)),AObj.map es,cells false 2 (nth [int i64 s.rule,ag s.atoms]),cells false 1 fun x=>ref 0 0,cells false 1 (nth [u5])] g))/\(decide (u7<u6)=false->Q (AEx.exit 0) (St.mk [(2,ref 2 0),(3,ref 3 0),(4,ref 4 0),(17,ag s.atoms),(18,int i64 u6),(19,int i64 u7),(20,AV.bool (decide (u7<u6)))] u4 g))) (some (11,false))) (some [])) (decide (0<=u1/\u1<=p.atoms-1))) ((↑i:Int))) ((↑(List.length s.atoms.l):Int))) (int u64 (IntKind.wrap u64 (↑(BitVec.toNat (BitVec.ofInt 64 (↑(aR (List.take i s.atoms.l)):Int)|||BitVec.ofInt 64 (↑(2^Int.toNat u1):Int))):Int)))) ([cells false 27 (ad p v (AV.mp 1)),AObj.map es,cells false 2 (nth [int i64 s.rule,ag s.atoms]),cells false 1 fun x=>ref 0 0,cells false 1 fun x=>int u64 (↑(aR (List.take i s.atoms.l)):Int)])) (bif decide (0<=u1/\u1<=p.atoms-1) then bif (↑i:Int)==0 then true else decide (u1 > u2) else false)) (List.getD s.atoms.l (Int.toNat ((↑i:Int)-1)) 0)) (List.getD s.atoms.l i 0)) ⟨fun c1=>have c1:(↑i:Int)<(↑(List.length s.atoms.l):Int):=(of_decide_eq_true c1);⟨omg,omg,omg,omg,omg,(fun _ _=>⟨rfl,(cK _ _ _ _ _ _)⟩),omg,omg,(by intro h;simp at h <;> omega),omg,omg,omg,?_,(fun _ _=>⟨rfl,(dt _ _ (by assumption) _ _)⟩),krf,omg,(fun _ _=>⟨rfl,(dG _ _ omg _ _)⟩),omg,(fun c hc=>match c,hc with|0,_=>krf ),omg,?_⟩,fun c1=>have c1:¬(↑i:Int)<(↑(List.length s.atoms.l):Int):=(of_decide_eq_false c1);?_⟩
   ·intro _
    exact dD rfl rfl krf rfl (by show _+1<=27;omega) (dF omg omg)
   ·refine(aY (i+1) (toL (h1:=⟨yu _,yu _,yu _,yu _,yu _,(yv krf),trivial⟩) (h2:=⟨yw,rfl,yw,yw,⟨rfl,Nat.le_refl _,fun j hj=>match j,hj with|0,_=>(yv ?_) ⟩,trivial⟩)) ?_ ?_)
    ·show AV.int .u64 _=AV.int .u64 _
     congr 1
     rw[hx]
     exact Tb.u64_or (bu h2) (bu (Nat.pow_lt_pow_right dcd omg))
    ·refine⟨omg,?_⟩
     rw[hx]
     exact Nat.or_lt_two_pow h2 (Nat.pow_lt_pow_right dcd omg)
    ·omega
   all_goals (exfalso;omega)
  ·have hi':i=s.atoms.l.length:=by omega
   subst hi'
   rw[List.take_length] at h2 ⊢
   obtain⟨S,hS⟩:∃S,aR s.atoms.l=S:=⟨_,rfl⟩
   rw[hS] at h2 hn ⊢
   have hb:decide ((s.atoms.l.length:Int)<(s.atoms.l.length:Int))=false:=decide_eq_false omg
   refine vcR [[1,1,1,0,1,0,0,1,0,0]] (lkL [(4,[2,3,4,17,18,19,20])]) (fun _=>[]) (fun Q=>(fun (u1:Int)=>(fun (u2:St R.σ)=>(decide (u1<u1)=true->WpC Tryd.prog R 79 2 139 [1,1,1,0,1,0,0,1,0,0] Q [Kont.seq [1,1,1,0,1,0,0,1,1]] u2)/\(decide (u1<u1)=false->Q (AEx.exit 0) u2)) (St.mk [(2,ref 2 0),(3,ref 3 0),(4,ref 4 0),(17,ag s.atoms),(18,int i64 u1),(19,int i64 u1),(20,AV.bool (decide (u1<u1)))] [cells false 27 (ad p v (AV.mp 1)),AObj.map es,cells false 2 (nth [int i64 s.rule,ag s.atoms]),cells false 1 fun x=>ref 0 0,cells false 1 fun x=>int u64 (↑S:Int)] g)) ((↑(List.length s.atoms.l):Int))) ⟨fun hcc=>(nomatch (hb.symm.trans hcc)),fun _=>?_⟩
   refine⟨⟨[(2,.ref 2 0),(3,.ref 3 0),(4,.ref 4 0)],[.cells false 27 (ad p v (.mp 1)),.map es,.cells false 2 (nth [.int .i64 s.rule,ag s.atoms]),.cells false 1 (fun _=>.ref 0 0),.cells false 1 (fun _=>.int .u64 S)],g⟩,bg (by exact⟨yu _,yu _,yu _,trivial⟩) rfl rfl,?_⟩
   show WpB _ _ _ _ _ _ _ _ _
   refine uO krf ?_
   refine i6 krf ?_
   refine vcR [] (lkL [(9,[3,4,63])]) (lkL [(9,[(1,ROrc.call (fn 105 0 (nth []) 1 (nth [ref (List.length [cells false 27 (ad p v (AV.mp 1)),AObj.map es,cells false 2 (nth [int i64 s.rule,ag s.atoms]),cells false 1 fun (x:Nat)=>ref 0 0,cells false 1 fun (x:Nat)=>int u64 (↑S:Int)]) 0])) ([cells false 27 (ad p v (AV.mp 1)),AObj.map es,cells false 2 (nth [int i64 s.rule,ag s.atoms]),cells false 1 fun (x:Nat)=>ref 0 0,cells false 1 fun (x:Nat)=>int u64 (↑S:Int)]++[cells false 1 fun (x:Nat)=>int u64 (↑S:Int)]) g)])]) (fun Q=>(fun (u1:List AObj)=>1<=1/\(true=true/\Does Tryd.prog R 77 [int u64 (↑S:Int)] [cells false 27 (ad p v (AV.mp 1)),AObj.map es,cells false 2 (nth [int i64 s.rule,ag s.atoms]),cells false 1 fun x=>ref 0 0,cells false 1 fun x=>int u64 (↑S:Int)] g (ret (fn 105 0 (nth []) 1 (nth [ref 5 0]))) u1 g)/\Q AEx.normal (St.mk [(3,ref 3 0),(4,ref 4 0),(63,fn 105 0 (nth []) 1 (nth [ref 5 0]))] u1 g)) ([cells false 27 (ad p v (AV.mp 1)),AObj.map es,cells false 2 (nth [int i64 s.rule,ag s.atoms]),cells false 1 fun x=>ref 0 0,cells false 1 fun x=>int u64 (↑S:Int),cells false 1 fun x=>int u64 (↑S:Int)])) ⟨omg,⟨rfl,(cx _ _ _ _)⟩,?_⟩
   show WpB _ _ _ _ _ _ _ _ _
   obtain⟨K,hK,hKs,hlo⟩:∃K,K<(ai S).length/\(ofH p.rules.l (((ai S).getD K 0:Nat):Int)).any (aZ v S)=true/\∀j,j<K->(ofH p.rules.l (((ai S).getD j 0:Nat):Int)).any (aZ v S)=false:=by
    have h:=g5 (fun (a:Nat)=>(ofH p.rules.l a).any (aZ v S)) 0 (ai S) 0 (by
     by_cases h:0<=aN (fun (a:Nat)=>(ofH p.rules.l a).any (aZ v S)) (ai S) 0
     ·exact h
     ·have hm:=(mT _ _ _ h).2
      unfold dH at hn
      rw[Bool.not_eq_false',List.any_eq_true] at hn
      obtain⟨x,hx,hx2⟩:=hn
      rw[hm x hx] at hx2
      cases hx2)
    obtain⟨K,h1,_,h3,h4⟩:=h
    exact⟨K,h1,h3,h4⟩
   have hin:∀k,k<(ai S).length->(ai S).getD k 0<24:=fun k hk=>jk (bX (ai S) 0 hk)
   obtain⟨l,hle⟩:∃l,(fun k=>(ai S).getD k 0)=l:=⟨_,rfl⟩
   refine uN krf ?_
   refine xR 63 [64] 5 krf rfl rfl S K h2 [.cells false 27 (ad p v (.mp 1)),.map es,.cells false 2 (nth [.int .i64 s.rule,ag s.atoms]),.cells false 1 (fun _=>.ref 0 0),.cells false 1 (fun _=>.int .u64 S)] (eW rfl rfl) rfl (by exact⟨omg,omg,omg,omg,omg,trivial⟩) (by exact⟨fun j _=>aP _ _ 3 _,trivial,fun j hj=>(match j with|0=>trivial|1=>trivial|_+2=>trivial),fun _ _=>show 0<5 by omega,fun _ _=>trivial,trivial⟩) rfl krf [3,4] (by exact⟨show 3<5 by omega,show 4<5 by omega,trivial⟩) (fun k l' hk hkN=>?_) hK (fun l'=>?_)
   ·refine vcR [] (lkL [(10,[3,4,7])]) (fun _=>[]) (fun (Q:AEx->St R.σ->Prop)=>Q AEx.normal (St.mk [(3,ref 3 0),(4,ref 4 0),(7,int i64 (↑(List.getD (ai S) k 0):Int))] [cells false 27 (ad p v (AV.mp 1)),AObj.map es,cells false 2 (nth [int i64 s.rule,ag s.atoms]),cells false 1 fun (x:Nat)=>ref 0 0,cells false 1 fun (x:Nat)=>int u64 (↑S:Int)] g)) (?_)
    show Wp _ _ _ 5 _ _ _ _ _
    obtain⟨a,ha⟩:∃a,(ai S).getD k 0=a:=⟨_,rfl⟩
    have ha24:a<24:=by rw[<-ha];exact hin k hkN
    have hm:(!(ofH p.rules.l a).any (aZ v S))=true:=by rw[<-ha,hlo k hk];rfl
    rw[ha]
    refine vcR [] (lkL [(11,[3,4])]) (lkL [(11,[(3,ROrc.kcall (AV.bool (List.any (ofH p.rules.l (↑a:Int)) (aZ v S)))),(5,ROrc.pcall (tup 0 (nth [])))])]) (fun Q=>(fun (u1:List AObj)=>1<=1/\1<=1/\(true=true/\Does Tryd.prog R 115 [ref 0 0,int i64 (↑a:Int),int u64 (↑S:Int)] u1 g (ret (AV.bool (List.any (ofH p.rules.l (↑a:Int)) (aZ v S)))) u1 g)/\(∀(hp:List AObj) (g:R.σ),true=true/\Does Tryd.prog R 140 [AV.bool !List.any (ofH p.rules.l (↑a:Int)) (aZ v S)] hp g (ret (tup 0 (nth []))) hp g)/\Q AEx.normal (St.mk [(3,ref 3 0),(4,ref 4 0)] u1 g)) ([cells false 27 (ad p v (AV.mp 1)),AObj.map es,cells false 2 (nth [int i64 s.rule,ag s.atoms]),cells false 1 fun x=>ref 0 0,cells false 1 fun x=>int u64 (↑S:Int)])) ⟨omg,omg,⟨rfl,(doT (T:=LT) [0,1] 5 (fun R _ g=>jf R (p) (v) (es) (S) (a) omg omg omg omg omg g))⟩,(fun _ _=>⟨rfl,(dt _ _ omg _ _)⟩),?_⟩
    refine(d8 rfl (bg trivial rfl rfl))
   ·refine vcR [] (lkL [(10,[3,4,7])]) (fun _=>[]) (fun (Q:AEx->St R.σ->Prop)=>Q AEx.normal (St.mk [(3,ref 3 0),(4,ref 4 0),(7,int i64 (↑(List.getD (ai S) K 0):Int))] [cells false 27 (ad p v (AV.mp 1)),AObj.map es,cells false 2 (nth [int i64 s.rule,ag s.atoms]),cells false 1 fun (x:Nat)=>ref 0 0,cells false 1 fun (x:Nat)=>int u64 (↑S:Int),dead] g)) (?_)
    show Wp _ _ _ 6 _ _ _ _ _
    obtain⟨a,ha⟩:∃a,(ai S).getD K 0=a:=⟨_,rfl⟩
    have ha24:a<24:=by rw[<-ha];exact hin K hK
    have hm:(!(ofH p.rules.l a).any (aZ v S))=false:=by rw[<-ha,hKs];rfl
    rw[ha]
    refine vcR [] (lkL [(11,[3,4])]) (lkL [(11,[(3,ROrc.kcall (AV.bool (List.any (ofH p.rules.l (↑a:Int)) (aZ v S)))),(5,ROrc.cpan (ifc 145 (agg 0 (nth []))) [cells false 27 (ad p v (AV.mp 1)),AObj.map es,cells false 2 (nth [int i64 s.rule,ag s.atoms]),cells false 1 fun (x:Nat)=>ref 0 0,cells false 1 fun (x:Nat)=>int u64 (↑S:Int),dead] g)])]) (fun Q=>(fun (u1:List AObj)=>1<=1/\1<=1/\(true=true/\Does Tryd.prog R 115 [ref 0 0,int i64 (↑a:Int),int u64 (↑S:Int)] u1 g (ret (AV.bool (List.any (ofH p.rules.l (↑a:Int)) (aZ v S)))) u1 g)/\(true=true/\Does Tryd.prog R 140 [AV.bool !List.any (ofH p.rules.l (↑a:Int)) (aZ v S)] u1 g (Oc.pan (ifc 145 (agg 0 (nth [])))) u1 g)/\Q (AEx.pan (ifc 145 (agg 0 (nth [])))) (St.mk [(3,ref 3 0),(4,ref 4 0)] u1 g)) ([cells false 27 (ad p v (AV.mp 1)),AObj.map es,cells false 2 (nth [int i64 s.rule,ag s.atoms]),cells false 1 fun x=>ref 0 0,cells false 1 fun x=>int u64 (↑S:Int),dead])) ⟨omg,omg,⟨rfl,(doT (T:=LT) [0,1] 6 (fun R _ g=>jf R (p) (v) (es) (S) (a) omg omg omg omg omg g))⟩,⟨rfl,(g4 _ _ omg _ _)⟩,?_⟩
    refine⟨krf,?_⟩
    exact dP (s':=⟨[(0,.ifc 145 (.agg 0 (nth [])))],[.cells false 27 (ad p v (.mp 1)),.map es],g⟩) [0,1] 6 rfl rfl rfl rfl rfl ⟨yu _,trivial⟩ ⟨yE (fun j hj=>(bP (f:=ar [0,1] 6) rfl).symm),rfl,trivial⟩
theorem xT (R:Res)[Tab LT R](p:Prg)(v:Nat->Int)(es:List (Value × AV))(s:Step)(hl:p.rules.l.length<1000000)(hr:∀r,r∈p.rules.l->aK r)(hes:HeadsOk es p.rules.l)(hp:1<=p.atoms/\p.atoms<=24)(hsl:s.atoms.l.length<1000000)(g:R.σ):Does Tryd.prog R 139 [bb s,.ref 0 0] [.cells false 27 (ad p v (.mp 1)),.map es] g (qm (du p v s)) [.cells false 27 (ad p (match du p v s with|true=>cX v (aR s.atoms.l)|false=>v) (.mp 1)),.map es] g:=by
 by_cases h:cW p v s.atoms.l=true/\dH p v (aR s.atoms.l)=false
 ·have hu:du p v s=false:=by unfold du;rw[h.1,h.2];rfl
  rw[hu]
  exact xS R p v es s hl hr hes hp hsl h.1 h.2 g
 ·exact vI R p v es s hl hr hes hp hsl (fun hc=>by
   cases hn:dH p v (aR s.atoms.l) with
   |true=>rfl
   |false=>exact absurd ⟨hc,hn⟩ h) g
def okS (p:Prg)(v:Nat->Int)(s:Step):Bool:=if s.rule = -1 then du p v s else cV p v s
def newS (p:Prg)(v:Nat->Int)(s:Step):Nat->Int:=if s.rule = -1 then cX v (aR s.atoms.l) else e9 p v s
theorem ld {R:Res}{f:FuncId}{p:Prg}{v v':Nat->Int}{es:List (Value × AV)}{s:Step}{x:Oc}(hx:∀F,gS F x=x)(h:∀(R:Res) [Tab LT R] (g:R.σ),Does Tryd.prog R f [bb s,.ref 0 0] [.cells false 27 (ad p v (.mp 1)),.map es] g x [.cells false 27 (ad p v' (.mp 1)),.map es] g)[Tab LT R](n:Nat)(c:Nat->AV)(g:R.σ) :
  Does Tryd.prog R f [bb s,.ref 0 0] [.cells false 27 (ad p v (.mp 1)),.map es,.cells false n c] g x [.cells false 27 (ad p v' (.mp 1)),.map es,.cells false n c] g:=
 dQ (T:=LT) inferInstance [0,1] 3 (fun R _ g=>h R g) rfl rfl rfl ⟨yE (fun j hj=>(bP (f:=ar [0,1] 3) rfl).symm),rfl,trivial⟩ (by exact⟨dcd,trivial⟩) ⟨bj (by exact⟨⟨trivial,trivial⟩,trivial⟩),yu _,trivial⟩ (by rw[hx];cases x <;> exact yu _) ⟨yE (fun j hj=>bP rfl),rfl,yx _,trivial⟩
theorem xU (R:Res)[Tab LT R](p:Prg)(v v':Nat->Int)(es:List (Value × AV))(s:Step)(h:∀(R:Res) [Tab LT R] (g:R.σ),Does Tryd.prog R 141 [bb s,.ref 0 0] [.cells false 27 (ad p v (.mp 1)),.map es] g (.ret (.tup 0 (nth []))) [.cells false 27 (ad p v' (.mp 1)),.map es] g)(g:R.σ):Does Tryd.prog R 67 [.ref 0 0,.ifc 149 (bb s)] [.cells false 27 (ad p v (.mp 1)),.map es] g (.ret (.bool true)) [.cells false 27 (ad p v' (.mp 1)),.map es] g:=by
 refine iU (K:=100) (nt:=br Tryd.prog 67) (rs:=co Tryd.prog 67) (k0:=2) 5 [4] krf krf krf rfl krf krf dcd dcd ?_
 refine vcR [] (lkL [(0,[0,1,4])]) (fun _=>[]) (fun (Q:AEx->St R.σ->Prop)=>Q AEx.normal (St.mk [(0,ref 0 0),(1,ifc 149 (bb s)),(4,ref 2 0)] [cells false 27 (ad p v (AV.mp 1)),AObj.map es,cells false 1 fun (a:Nat)=>AV.bool false] g)) (?_)
 refine iV 3 [.ref 2 0] rfl rfl rfl ?_
 have hD:=fun (R:Res) [Tab LT R] (n:Nat) (c:Nat->AV) (g:R.σ)=>ld (R:=R) (fun _=>rfl) h n c g
 refine vcR [] (lkL [(2,[4]),(3,[4])]) (lkL [(2,[(2,ROrc.inv (tup 0 (nth [])) [cells false 27 (ad p v' (AV.mp 1)),AObj.map es,cells false 1 fun (a:Nat)=>AV.bool false] g)]),(3,[(0,ROrc.val (Orc.obj (nth [AV.bool true])))])]) (fun Q=>(fun (u1:List AObj)=>(true=true/\true=true/\Does Tryd.prog R 141 [bb s,ref 0 0] (cells false 27 (ad p v (AV.mp 1))::u1) g (ret (tup 0 (nth []))) (cells false 27 (ad p v' (AV.mp 1))::u1) g)/\1<=1/\(∀(c:Nat),c<1->nth [AV.bool true] c=al (fun (a:Nat)=>AV.bool false) 0 1 (fun (x:Nat)=>AV.bool true) c)/\Q AEx.ret (St.mk [(4,ref 2 0)] [cells false 27 (ad p v' (AV.mp 1)),AObj.map es,cells false 1 (nth [AV.bool true])] g)) ([AObj.map es,cells false 1 fun a=>AV.bool false])) ⟨⟨krf,rfl,(hD _ _ _ _)⟩,omg,(fun c hc=>match c,hc with|0,_=>krf ),?_⟩
 refine⟨_,_,rh R p v' es _ g,?_⟩
 refine(av (bO 2 (AV.bool true) ([0+(TyI.mk (TypeInfo.mk TypeDesc.bool "bool" 1 1 false 1 1 (some (Value.bool false)) true #[]).desc Tryd.prog.types[4].size Tryd.prog.types[4].bytes (bT (cO (Value.bool false))) (cq (TypeInfo.mk TypeDesc.bool "bool" 1 1 false 1 1 (some (Value.bool false)) true #[]).desc) (dk Tryd.prog 4)).size<=1]) krf (by exact⟨dcd,trivial⟩) omg trivial ⟨(fun _ _=>(by first|exact trivial|apply aP)),trivial⟩ krf rfl rfl) (yu _))
theorem xV (R:Res)[Tab LT R](p:Prg)(v:Nat->Int)(es:List (Value × AV))(s:Step)(h:∀(R:Res) [Tab LT R] (g:R.σ),Does Tryd.prog R 141 [bb s,.ref 0 0] [.cells false 27 (ad p v (.mp 1)),.map es] g (.pan (.ifc 145 (.agg 0 (nth [])))) [.cells false 27 (ad p v (.mp 1)),.map es] g)(g:R.σ):Does Tryd.prog R 67 [.ref 0 0,.ifc 149 (bb s)] [.cells false 27 (ad p v (.mp 1)),.map es] g (.ret (.bool false)) [.cells false 27 (ad p v (.mp 1)),.map es] g:=by
 refine iU (K:=100) (nt:=br Tryd.prog 67) (rs:=co Tryd.prog 67) (k0:=2) 5 [4] krf krf krf rfl krf krf dcd dcd ?_
 refine vcR [] (lkL [(0,[0,1,4])]) (fun _=>[]) (fun (Q:AEx->St R.σ->Prop)=>Q AEx.normal (St.mk [(0,ref 0 0),(1,ifc 149 (bb s)),(4,ref 2 0)] [cells false 27 (ad p v (AV.mp 1)),AObj.map es,cells false 1 fun (a:Nat)=>AV.bool false] g)) (?_)
 refine iV 3 [.ref 2 0] rfl rfl rfl ?_
 have hD:=fun (R:Res) [Tab LT R] (n:Nat) (c:Nat->AV) (g:R.σ)=>ld (R:=R) (fun _=>rfl) h n c g
 refine vcR [] (lkL [(2,[4])]) (lkL [(2,[(2,ROrc.ipan (ifc 145 (agg 0 (nth []))) [cells false 27 (ad p v (AV.mp 1)),AObj.map es,cells false 1 fun (a:Nat)=>AV.bool false] g)])]) (fun Q=>(fun (u1:List AObj)=>(true=true/\true=true/\Does Tryd.prog R 141 [bb s,ref 0 0] u1 g (Oc.pan (ifc 145 (agg 0 (nth [])))) u1 g)/\Q (AEx.pan (ifc 145 (agg 0 (nth [])))) (St.mk [(4,ref 2 0)] u1 g)) ([cells false 27 (ad p v (AV.mp 1)),AObj.map es,cells false 1 fun a=>AV.bool false])) ⟨⟨krf,rfl,(hD _ _ _ _)⟩,?_⟩
 refine⟨_,_,nl R p v es _ g,?_⟩
 refine(av (bO 2 (AV.bool false) ([0+(TyI.mk (TypeInfo.mk TypeDesc.bool "bool" 1 1 false 1 1 (some (Value.bool false)) true #[]).desc Tryd.prog.types[4].size Tryd.prog.types[4].bytes (bT (cO (Value.bool false))) (cq (TypeInfo.mk TypeDesc.bool "bool" 1 1 false 1 1 (some (Value.bool false)) true #[]).desc) (dk Tryd.prog 4)).size<=1]) krf (by exact⟨dcd,trivial⟩) omg trivial ⟨(fun _ _=>(by first|exact trivial|apply aP)),trivial⟩ krf rfl rfl) (yu _))
theorem xW (R:Res)[Tab LT R](p:Prg)(v v':Nat->Int)(es:List (Value × AV))(s:Step)(h:∀(R:Res) [Tab LT R] (g:R.σ),Does Tryd.prog R 139 [bb s,.ref 0 0] [.cells false 27 (ad p v (.mp 1)),.map es] g (.ret (.tup 0 (nth []))) [.cells false 27 (ad p v' (.mp 1)),.map es] g)(g:R.σ):Does Tryd.prog R 67 [.ref 0 0,.ifc 148 (bb s)] [.cells false 27 (ad p v (.mp 1)),.map es] g (.ret (.bool true)) [.cells false 27 (ad p v' (.mp 1)),.map es] g:=by
 refine iU (K:=100) (nt:=br Tryd.prog 67) (rs:=co Tryd.prog 67) (k0:=2) 5 [4] krf krf krf rfl krf krf dcd dcd ?_
 refine vcR [] (lkL [(0,[0,1,4])]) (fun _=>[]) (fun (Q:AEx->St R.σ->Prop)=>Q AEx.normal (St.mk [(0,ref 0 0),(1,ifc 148 (bb s)),(4,ref 2 0)] [cells false 27 (ad p v (AV.mp 1)),AObj.map es,cells false 1 fun (a:Nat)=>AV.bool false] g)) (?_)
 refine iV 3 [.ref 2 0] rfl rfl rfl ?_
 have hD:=fun (R:Res) [Tab LT R] (n:Nat) (c:Nat->AV) (g:R.σ)=>ld (R:=R) (fun _=>rfl) h n c g
 refine vcR [] (lkL [(2,[4]),(3,[4])]) (lkL [(2,[(2,ROrc.inv (tup 0 (nth [])) [cells false 27 (ad p v' (AV.mp 1)),AObj.map es,cells false 1 fun (a:Nat)=>AV.bool false] g)]),(3,[(0,ROrc.val (Orc.obj (nth [AV.bool true])))])]) (fun Q=>(fun (u1:List AObj)=>(true=true/\true=true/\Does Tryd.prog R 139 [bb s,ref 0 0] (cells false 27 (ad p v (AV.mp 1))::u1) g (ret (tup 0 (nth []))) (cells false 27 (ad p v' (AV.mp 1))::u1) g)/\1<=1/\(∀(c:Nat),c<1->nth [AV.bool true] c=al (fun (a:Nat)=>AV.bool false) 0 1 (fun (x:Nat)=>AV.bool true) c)/\Q AEx.ret (St.mk [(4,ref 2 0)] [cells false 27 (ad p v' (AV.mp 1)),AObj.map es,cells false 1 (nth [AV.bool true])] g)) ([AObj.map es,cells false 1 fun a=>AV.bool false])) ⟨⟨krf,rfl,(hD _ _ _ _)⟩,omg,(fun c hc=>match c,hc with|0,_=>krf ),?_⟩
 refine⟨_,_,rh R p v' es _ g,?_⟩
 refine(av (bO 2 (AV.bool true) ([0+(TyI.mk (TypeInfo.mk TypeDesc.bool "bool" 1 1 false 1 1 (some (Value.bool false)) true #[]).desc Tryd.prog.types[4].size Tryd.prog.types[4].bytes (bT (cO (Value.bool false))) (cq (TypeInfo.mk TypeDesc.bool "bool" 1 1 false 1 1 (some (Value.bool false)) true #[]).desc) (dk Tryd.prog 4)).size<=1]) krf (by exact⟨dcd,trivial⟩) omg trivial ⟨(fun _ _=>(by first|exact trivial|apply aP)),trivial⟩ krf rfl rfl) (yu _))
theorem xX (R:Res)[Tab LT R](p:Prg)(v:Nat->Int)(es:List (Value × AV))(s:Step)(h:∀(R:Res) [Tab LT R] (g:R.σ),Does Tryd.prog R 139 [bb s,.ref 0 0] [.cells false 27 (ad p v (.mp 1)),.map es] g (.pan (.ifc 145 (.agg 0 (nth [])))) [.cells false 27 (ad p v (.mp 1)),.map es] g)(g:R.σ):Does Tryd.prog R 67 [.ref 0 0,.ifc 148 (bb s)] [.cells false 27 (ad p v (.mp 1)),.map es] g (.ret (.bool false)) [.cells false 27 (ad p v (.mp 1)),.map es] g:=by
 refine iU (K:=100) (nt:=br Tryd.prog 67) (rs:=co Tryd.prog 67) (k0:=2) 5 [4] krf krf krf rfl krf krf dcd dcd ?_
 refine vcR [] (lkL [(0,[0,1,4])]) (fun _=>[]) (fun (Q:AEx->St R.σ->Prop)=>Q AEx.normal (St.mk [(0,ref 0 0),(1,ifc 148 (bb s)),(4,ref 2 0)] [cells false 27 (ad p v (AV.mp 1)),AObj.map es,cells false 1 fun (a:Nat)=>AV.bool false] g)) (?_)
 refine iV 3 [.ref 2 0] rfl rfl rfl ?_
 have hD:=fun (R:Res) [Tab LT R] (n:Nat) (c:Nat->AV) (g:R.σ)=>ld (R:=R) (fun _=>rfl) h n c g
 refine vcR [] (lkL [(2,[4])]) (lkL [(2,[(2,ROrc.ipan (ifc 145 (agg 0 (nth []))) [cells false 27 (ad p v (AV.mp 1)),AObj.map es,cells false 1 fun (a:Nat)=>AV.bool false] g)])]) (fun Q=>(fun (u1:List AObj)=>(true=true/\true=true/\Does Tryd.prog R 139 [bb s,ref 0 0] u1 g (Oc.pan (ifc 145 (agg 0 (nth [])))) u1 g)/\Q (AEx.pan (ifc 145 (agg 0 (nth [])))) (St.mk [(4,ref 2 0)] u1 g)) ([cells false 27 (ad p v (AV.mp 1)),AObj.map es,cells false 1 fun a=>AV.bool false])) ⟨⟨krf,rfl,(hD _ _ _ _)⟩,?_⟩
 refine⟨_,_,nl R p v es _ g,?_⟩
 refine(av (bO 2 (AV.bool false) ([0+(TyI.mk (TypeInfo.mk TypeDesc.bool "bool" 1 1 false 1 1 (some (Value.bool false)) true #[]).desc Tryd.prog.types[4].size Tryd.prog.types[4].bytes (bT (cO (Value.bool false))) (cq (TypeInfo.mk TypeDesc.bool "bool" 1 1 false 1 1 (some (Value.bool false)) true #[]).desc) (dk Tryd.prog 4)).size<=1]) krf (by exact⟨dcd,trivial⟩) omg trivial ⟨(fun _ _=>(by first|exact trivial|apply aP)),trivial⟩ krf rfl rfl) (yu _))
theorem xY (R:Res)[Tab LT R](p:Prg)(v:Nat->Int)(es:List (Value × AV))(s:Step)(hl:p.rules.l.length<1000000)(hr:∀r,r∈p.rules.l->aK r)(hes:HeadsOk es p.rules.l)(hp:1<=p.atoms/\p.atoms<=24)(hsl:s.atoms.l.length<1000000)(g:R.σ):Does Tryd.prog R 67 [.ref 0 0,cL s] [.cells false 27 (ad p v (.mp 1)),.map es] g (.ret (.bool (okS p v s))) [.cells false 27 (ad p (if okS p v s then newS p v s else v) (.mp 1)),.map es] g:=by
 unfold okS newS cL
 by_cases h:s.rule = -1
 ·rw[if_pos h,if_pos h,if_pos h]
  have hU:=fun (R:Res) [Tab LT R] (g:R.σ)=>xT R p v es s hl hr hes hp hsl g
  cases hu:du p v s with
  |true=>
   simp only[hu] at hU
   exact xW R p v _ es s hU g
  |false=>
   simp only[hu] at hU
   exact xX R p v es s hU g
 ·rw[if_neg h,if_neg h,if_neg h]
  cases hu:cV p v s with
  |true=>exact xU R p v _ es s (fun R _ g=>vH R p v es s hl hr hu g) g
  |false=>exact xV R p v es s (fun R _ g=>qn R p v es s hl hr hu g) g
end Go.Avm.Pack
namespace Go.Avm.Pack
open Go Go.Avm Go.Proofs
open Go.IntKind (i64 u64)
open Go.Avm.AV (int bool any fz fp sl ow ref fn ifc val agg tup)
open Go.Avm.AObj (cells dead)
open Go.Avm.Oc (ret)
set_option maxRecDepth 4000
def em (p:Prg):List Step->(Nat->Int)->Nat->Int
 |[],_,_=> -1
 |s::l,v,i=>if okS p v s then em p l (newS p v s) (i+1) else i
def cN (p:Prg)(v:Nat->Int)(l:List Step):Nat->Int:=l.foldl (newS p) v
theorem xZ {p:Prg}{v:Nat->Int}{l:List Step}{i:Nat}(h:i<l.length):cN p v (l.take (i+1))=newS p (cN p v (l.take i)) (l.getD i default):=kP (newS p) v l default h
theorem x7 {f:Nat->Nat}{p:Prg}{v:Nat->Int}{j k m:Nat}(h:f k=m):aE f (ad p v (.mp k) j)=ad p v (.mp m) j:=by
 subst h
 unfold ad
 split
 ·rfl
 ·split
  ·rfl
  ·split <;> rfl
theorem rB (R:Res)[Tab LT R](p:Prg)(v:Nat->Int)(es:List (Value × AV))(s:Step)(n0 n3:Nat)(c0 c3:Nat->AV)(hl:p.rules.l.length<1000000)(hr:∀r,r∈p.rules.l->aK r)(hes:HeadsOk es p.rules.l)(hp:1<=p.atoms/\p.atoms<=24)(hsl:s.atoms.l.length<1000000)(g:R.σ):Does Tryd.prog R 67 [.ref 1 0,cL s] [.cells false n0 c0,.cells false 27 (ad p v (.mp 2)),.map es,.cells false n3 c3] g (.ret (.bool (okS p v s))) [.cells false n0 c0,.cells false 27 (ad p (if okS p v s then newS p v s else v) (.mp 2)),.map es,.cells false n3 c3] g:=
 dQ (T:=LT) inferInstance [1,2] 4 (fun R _ g=>xY R p v es s hl hr hes hp hsl g) rfl rfl rfl ⟨yE (fun j hj=>(bP (f:=ar [1,2] 4) rfl).symm),rfl,trivial⟩ (by exact⟨dcd,trivial⟩) ⟨yu _,bj (by unfold cL;split <;> exact⟨⟨trivial,trivial⟩,trivial⟩),trivial⟩ (yu _) ⟨yx _,yE (fun j hj=>bP rfl),rfl,yx _,trivial⟩
theorem rC (R:Res)[Tab LT R](p:Prg)(l:KL Step)(hb:aJ p=true)(hll:l.l.length<1000000)(hal:∀i,(l.l.getD i default).atoms.l.length<1000000)(g:R.σ):Does Tryd.prog R 23 [aq p,ay l] [] g (.ret (.tup 2 (nth [.int .i64 (if 0<=em p l.l (fun _=>3) 0 then em p l.l (fun _=>3) 0 else 0),.int .i64 (if 0<=em p l.l (fun _=>3) 0 then 7 else 0)]))) [] g:=by
 obtain⟨hl,hr,hp,hh,hx⟩:=fe hb
 have hs:d9 p:=ff hb
 have hp':1<=p.atoms/\p.atoms<=24:=hp
 refine spW (nt:=28) (rs:=[.tmp 4,.tmp 5]) (k0:=0) ?_
 have hc:((if aJ p then(0:Int) else 2) != 0)=false:=by
  rw[hb]
  rfl
 refine vcR [[1,0,1,0]] (lkL [(0,[1,2]),(1,[1,2,11]),(3,[1,6]),(4,[6,14,15,16])]) (lkL [(1,[(1,ROrc.pcall (int i64 (if aJ p=true then 0 else 2)))]),(3,[(1,ROrc.call (ref 1 0) [cells false 2 (nth [int i64 p.atoms,af p.rules]),cells false 27 (ad p (fun (x:Nat)=>3) (AV.mp 2)),AObj.map (esF p.rules.l)] g)])]) (fun Q=>(fun (u1:AObj)=>(fun (u2:Int)=>(fun (u3:List AObj)=>2<=2/\(∀(hp:List AObj) (g:R.σ),true=true/\Does Tryd.prog R 16 [aq p] hp g (ret (int i64 u2)) hp g)/\((u2 != 0)=true->WpC Tryd.prog R 28 0 23 [1,0,1,0] Q [Kont.seq [1,1]] (St.mk [(1,ay l),(2,ref 0 0),(11,AV.bool (u2 != 0))] [u1] g))/\((u2 != 0)=false->2<=2/\(true=true/\Does Tryd.prog R 66 [aq p] [u1] g (ret (ref 1 0)) u3 g)/\WpC Tryd.prog R 28 0 23 [1,1,1,0,1,0] Q [Kont.blk 0,Kont.seq [1,1,1,1]] (St.mk [(6,ref 1 0),(14,ay l),(15,int i64 (↑(List.length l.l):Int)),(16,int i64 0)] u3 g))) ([u1,cells false 27 (ad p (fun (x:Nat)=>3) (AV.mp 2)),AObj.map (esF p.rules.l)])) (if aJ p=true then 0 else 2)) (cells false 2 (nth [int i64 p.atoms,af p.rules]))) ⟨omg,(fun _ _=>⟨rfl,(e8 _ _ _ _ omg)⟩),fun hcc=>(nomatch (hc.symm.trans hcc)),fun _=>⟨omg,⟨rfl,(kL _ _ _ omg omg _)⟩,?_⟩⟩
 refine(bq krf (fun (i:Nat)=>⟨[(6,ref 1 0),(14,ay l),(15,int i64 (l.l.length:Int)),(16,.int .i64 i)],[.cells false 2 (nth [.int .i64 p.atoms,af p.rules]),.cells false 27 (ad p (cN p (fun _=>3) (l.l.take i)) (.mp 2)),.map (esF p.rules.l)],g⟩) (fun (i:Nat)=>(i<=l.l.length/\em p l.l (fun _=>3) 0=em p (l.l.drop i) (cN p (fun _=>3) (l.l.take i)) i)) (fun (i:Nat)=>(l.l.length-i)) 0 (toL (h1:=⟨yu _,yu _,yu _,(yv krf),trivial⟩)) ?_ (fun i hi=>?_))
 ·exact⟨Nat.zero_le _,rfl⟩
 ·obtain⟨h1,h2⟩:=hi
  rcases Nat.lt_or_ge i l.l.length with hlt|hge
  ·rw[gc l.l default hlt] at h2
   have hrt:=xZ (p:=p) (v:=fun _=>3) hlt
   obtain⟨v,hv⟩:∃v,cN p (fun _=>3) (l.l.take i)=v:=⟨_,rfl⟩
   rw[hv] at hrt h2 ⊢
   have h2:em p l.l (fun _=>3) 0=if okS p v (l.l.getD i default) then em p (l.l.drop (i+1)) (newS p v (l.l.getD i default)) (i+1) else i:=h2
   have hD:=fun (R:Res) [Tab LT R] (n0 n3:Nat) (c0 c3:Nat->AV) (g:R.σ)=>rB R p v (esF p.rules.l) (l.l.getD i default) n0 n3 c0 c3 hl hr (mK hr) hp (hal i) g
   cases hk:okS p v (l.l.getD i default) with
   |true=>
    simp only[hk,if_true] at hD
    rw[if_pos hk] at h2
    refine vcR [[1,1,1,0,1,0,0,1,1,0,0,1,1,0]] (lkL [(5,[6,14,15,16,17]),(6,[6,7,8,14,15,16]),(7,[6,7,14,15,16,25]),(9,[6,14,15,16])]) (lkL [(6,[(5,ROrc.val (Orc.obj (nth [int i64 (List.getD l.l i default).rule,fz (List.getD l.l i default).atoms.2 1 (List.length (List.getD l.l i default).atoms.l) fun (i_1 x:Nat)=>ah (List.getD l.l i default).atoms.l i_1])))]),(7,[(2,ROrc.pcall (cL (List.getD l.l i default))),(3,ROrc.call (AV.bool true) [cells false 2 (nth [int i64 p.atoms,af p.rules]),cells false 27 (ad p (newS p v (List.getD l.l i default)) (AV.mp 2)),AObj.map (esF p.rules.l),cells false 2 (nth [int i64 (List.getD l.l i default).rule,fz (List.getD l.l i default).atoms.2 1 (List.length (List.getD l.l i default).atoms.l) fun (i_1 x:Nat)=>ah (List.getD l.l i default).atoms.l i_1])] g)])]) (fun Q=>(fun (u1:List AV)=>(fun (u2:List AObj)=>(fun (u3:Int)=>(fun (u4:Int)=>(fun (u5:AObj)=>(decide (u4<u3)=true->(0<=u4/\u4<u3)/\2<=2/\2<=2/\(∀(c:Nat),c<2->nth u1 c=al (nth [int i64 0,fz Fz.nil 0 0 fun x x_1=>any]) 0 2 (List.brecOn (motive:=fun (x:List AV)=>Nat->AV) u1 nth._f) c)/\2<=2/\(∀(hp:List AObj) (g:R.σ),true=true/\Does Tryd.prog R 68 [agg 2 (nth u1)] hp g (ret (cL (List.getD l.l i default))) hp g)/\(true=true/\Does Tryd.prog R 67 [ref 1 0,evO [Row.mk (some 23) none (cL (List.getD l.l i default)) false (some []) [],Row.mk (some 22) none (agg 2 (nth u1)) false (some []) [3],Row.mk (some 21) none (ref 1 0) false (some []) []] [(6,ref 1 0),(7,int i64 u4),(8,ref 3 0),(14,ay l),(15,int i64 u3),(16,int i64 u4)] [] (Operand.tmp 23)] [u5,cells false 27 (ad p v (AV.mp 2)),AObj.map (esF p.rules.l),cells false 2 (nth u1)] g (ret (AV.bool true)) u2 g)/\(false=true->WpC Tryd.prog R 28 0 23 [1,1,1,0,1,0,0,1,1,0,0,1,1,0] Q [Kont.blk 1,Kont.seq [1,1,1,0,1,0,0,1,1,1]] (St.mk [(6,ref 1 0),(7,int i64 u4),(14,ay l),(15,int i64 u3),(16,int i64 u4),(25,AV.bool false)] u2 g))/\(false=false->(-9223372036854775808<=u4+1/\u4+1<=9223372036854775807)/\Q AEx.normal (St.mk [(6,ref 1 0),(14,ay l),(15,int i64 u3),(16,int i64 (u4+1))] u2 g)))/\(decide (u4<u3)=false->Q (AEx.exit 0) (St.mk [(6,ref 1 0),(14,ay l),(15,int i64 u3),(16,int i64 u4),(17,AV.bool (decide (u4<u3)))] [u5,cells false 27 (ad p v (AV.mp 2)),AObj.map (esF p.rules.l)] g))) (cells false 2 (nth [int i64 p.atoms,af p.rules]))) ((↑i:Int))) ((↑(List.length l.l):Int))) ([cells false 2 (nth [int i64 p.atoms,af p.rules]),cells false 27 (ad p (newS p v (List.getD l.l i default)) (AV.mp 2)),AObj.map (esF p.rules.l),cells false 2 (nth u1)])) ([int i64 (List.getD l.l i default).rule,fz (List.getD l.l i default).atoms.2 1 (List.length (List.getD l.l i default).atoms.l) fun i_1 x=>ah (List.getD l.l i default).atoms.l i_1])) ⟨fun c1=>have c1:(↑i:Int)<(↑(List.length l.l):Int):=(of_decide_eq_true c1);⟨omg,omg,omg,(fun c hc=>match c,hc with|0,_=>krf|1,_=>krf ),omg,(fun _ _=>⟨rfl,(kz _ _ _ _)⟩),⟨rfl,(hD _ _ _ _ _ _)⟩,fun h=>(nomatch h),fun _=>⟨omg,?_⟩⟩,fun c1=>have c1:¬(↑i:Int)<(↑(List.length l.l):Int):=(of_decide_eq_false c1);?_⟩
    ·refine(aY (i+1) (toS [0,1,2] 4 (hob:=⟨⟨rfl,Nat.le_refl _,fun j hj=>match j,hj with|0,_=>(yu _)|1,_=>(yu _) ⟩,(yE (fun j hj=>?_)),rfl,trivial⟩)) ?_ ?_)
     ·rw[hrt]
      exact(x7 (f:=ar [0,1,2] 4) (k:=2) rfl).symm
     ·refine⟨omg,?_⟩
      rw[hrt]
      exact h2
     ·omega
    ·exfalso;omega
   |false=>
    simp only[hk,if_false] at hD
    rw[if_neg (by rw[hk];decide)] at h2
    rw[h2,if_pos omg,if_pos omg]
    refine vcR [[1,1,1,0,1,0,0,1,1,0,0,1,1,1]] (lkL [(5,[6,14,15,16,17]),(6,[6,7,8,14,15,16]),(7,[6,7,14,15,16,25]),(8,[4,5])]) (lkL [(6,[(5,ROrc.val (Orc.obj (nth [int i64 (List.getD l.l i default).rule,fz (List.getD l.l i default).atoms.2 1 (List.length (List.getD l.l i default).atoms.l) fun (i_1 x:Nat)=>ah (List.getD l.l i default).atoms.l i_1])))]),(7,[(2,ROrc.pcall (cL (List.getD l.l i default))),(3,ROrc.call (AV.bool false) [cells false 2 (nth [int i64 p.atoms,af p.rules]),cells false 27 (ad p (if false=true then newS p v (List.getD l.l i default) else v) (AV.mp 2)),AObj.map (esF p.rules.l),cells false 2 (nth [int i64 (List.getD l.l i default).rule,fz (List.getD l.l i default).atoms.2 1 (List.length (List.getD l.l i default).atoms.l) fun (i_1 x:Nat)=>ah (List.getD l.l i default).atoms.l i_1])] g)])]) (fun Q=>(fun (u1:List AV)=>(fun (u2:List AObj)=>(fun (u3:Int)=>(fun (u4:Int)=>(fun (u5:AObj)=>(decide (u4<u3)=true->(0<=u4/\u4<u3)/\2<=2/\2<=2/\(∀(c:Nat),c<2->nth u1 c=al (nth [int i64 0,fz Fz.nil 0 0 fun x x_1=>any]) 0 2 (List.brecOn (motive:=fun (x:List AV)=>Nat->AV) u1 nth._f) c)/\2<=2/\(∀(hp:List AObj) (g:R.σ),true=true/\Does Tryd.prog R 68 [agg 2 (nth u1)] hp g (ret (cL (List.getD l.l i default))) hp g)/\(true=true/\Does Tryd.prog R 67 [ref 1 0,evO [Row.mk (some 23) none (cL (List.getD l.l i default)) false (some []) [],Row.mk (some 22) none (agg 2 (nth u1)) false (some []) [3],Row.mk (some 21) none (ref 1 0) false (some []) []] [(6,ref 1 0),(7,int i64 u4),(8,ref 3 0),(14,ay l),(15,int i64 u3),(16,int i64 u4)] [] (Operand.tmp 23)] [u5,cells false 27 (ad p v (AV.mp 2)),AObj.map (esF p.rules.l),cells false 2 (nth u1)] g (ret (AV.bool false)) u2 g)/\(true=true->Q AEx.ret (St.mk [(4,int i64 u4),(5,int i64 7)] u2 g))/\(true=false->WpC Tryd.prog R 28 0 23 [1,1,1,0,1,0,0,1,1,0,0,1,1,1] Q [Kont.blk 1,Kont.seq [1,1,1,0,1,0,0,1,1,1]] (St.mk [(6,ref 1 0),(7,int i64 u4),(14,ay l),(15,int i64 u3),(16,int i64 u4),(25,AV.bool true)] u2 g)))/\(decide (u4<u3)=false->Q (AEx.exit 0) (St.mk [(6,ref 1 0),(14,ay l),(15,int i64 u3),(16,int i64 u4),(17,AV.bool (decide (u4<u3)))] [u5,cells false 27 (ad p v (AV.mp 2)),AObj.map (esF p.rules.l)] g))) (cells false 2 (nth [int i64 p.atoms,af p.rules]))) ((↑i:Int))) ((↑(List.length l.l):Int))) ([cells false 2 (nth [int i64 p.atoms,af p.rules]),cells false 27 (ad p (if false=true then newS p v (List.getD l.l i default) else v) (AV.mp 2)),AObj.map (esF p.rules.l),cells false 2 (nth u1)])) ([int i64 (List.getD l.l i default).rule,fz (List.getD l.l i default).atoms.2 1 (List.length (List.getD l.l i default).atoms.l) fun i_1 x=>ah (List.getD l.l i default).atoms.l i_1])) ⟨fun c1=>have c1:(↑i:Int)<(↑(List.length l.l):Int):=(of_decide_eq_true c1);⟨omg,omg,omg,(fun c hc=>match c,hc with|0,_=>krf|1,_=>krf ),omg,(fun _ _=>⟨rfl,(kz _ _ _ _)⟩),⟨rfl,(hD _ _ _ _ _ _)⟩,fun _=>?_,fun h=>(nomatch h)⟩,fun c1=>have c1:¬(↑i:Int)<(↑(List.length l.l):Int):=(of_decide_eq_false c1);?_⟩
    ·refine⟨_,yG _,(av (cu _ _ rfl trivial ⟨⟨trivial,trivial⟩,trivial⟩ rfl) (yu _))⟩
    ·exfalso;omega
  ·have hie:i=l.l.length:=by omega
   subst hie
   rw[List.drop_length] at h2
   have h2:em p l.l (fun _=>3) 0 = -1:=h2
   rw[h2,if_neg omg,if_neg omg]
   refine vcR [] (lkL [(5,[6,14,15,16,17]),(6,[6,7,8,14,15,16]),(7,[6,7,14,15,16,25]),(8,[4,5]),(9,[6,14,15,16])]) (lkL [(6,[(5,ROrc.val (Orc.obj (nth [int i64 (List.getD l.l (List.length l.l) default).rule,fz (List.getD l.l (List.length l.l) default).atoms.2 1 (List.length (List.getD l.l (List.length l.l) default).atoms.l) fun (i x:Nat)=>ah (List.getD l.l (List.length l.l) default).atoms.l i])))]),(7,[(2,ROrc.pcall (cL (List.getD l.l (List.length l.l) default))),(3,ROrc.call (AV.bool (okS p (cN p (fun (x:Nat)=>3) (List.take (List.length l.l) l.l)) (List.getD l.l (List.length l.l) default))) [cells false 2 (nth [int i64 p.atoms,af p.rules]),cells false 27 (ad p (if okS p (cN p (fun (x:Nat)=>3) (List.take (List.length l.l) l.l)) (List.getD l.l (List.length l.l) default)=true then newS p (cN p (fun (x:Nat)=>3) (List.take (List.length l.l) l.l)) (List.getD l.l (List.length l.l) default) else cN p (fun (x:Nat)=>3) (List.take (List.length l.l) l.l)) (AV.mp 2)),AObj.map (esF p.rules.l),cells false 2 (nth [int i64 (List.getD l.l (List.length l.l) default).rule,fz (List.getD l.l (List.length l.l) default).atoms.2 1 (List.length (List.getD l.l (List.length l.l) default).atoms.l) fun (i x:Nat)=>ah (List.getD l.l (List.length l.l) default).atoms.l i])] g)])]) (fun Q=>(fun (u1:List AV)=>(fun (u2:List AObj)=>(fun (u3:Int)=>(fun (u4:Bool)=>(fun (u5:AObj)=>(fun (u6:AObj)=>(decide (u3<u3)=true->(0<=u3/\u3<u3)/\2<=2/\2<=2/\(∀(c:Nat),c<2->nth u1 c=al (nth [int i64 0,fz Fz.nil 0 0 fun x x_1=>any]) 0 2 (List.brecOn (motive:=fun (x:List AV)=>Nat->AV) u1 nth._f) c)/\2<=2/\(∀(hp:List AObj) (g:R.σ),true=true/\Does Tryd.prog R 68 [agg 2 (nth u1)] hp g (ret (cL (List.getD l.l (List.length l.l) default))) hp g)/\(true=true/\Does Tryd.prog R 67 [ref 1 0,evO [Row.mk (some 23) none (cL (List.getD l.l (List.length l.l) default)) false (some []) [],Row.mk (some 22) none (agg 2 (nth u1)) false (some []) [3],Row.mk (some 21) none (ref 1 0) false (some []) []] [(6,ref 1 0),(7,int i64 u3),(8,ref 3 0),(14,ay l),(15,int i64 u3),(16,int i64 u3)] [] (Operand.tmp 23)] [u6,u5,AObj.map (esF p.rules.l),cells false 2 (nth u1)] g (ret (AV.bool u4)) u2 g)/\((!u4)=true->Q AEx.ret (St.mk [(4,int i64 u3),(5,int i64 7)] u2 g))/\((!u4)=false->(-9223372036854775808<=u3+1/\u3+1<=9223372036854775807)/\Q AEx.normal (St.mk [(6,ref 1 0),(14,ay l),(15,int i64 u3),(16,int i64 (u3+1))] u2 g)))/\(decide (u3<u3)=false->Q (AEx.exit 0) (St.mk [(6,ref 1 0),(14,ay l),(15,int i64 u3),(16,int i64 u3),(17,AV.bool (decide (u3<u3)))] [u6,u5,AObj.map (esF p.rules.l)] g))) (cells false 2 (nth [int i64 p.atoms,af p.rules]))) (cells false 27 (ad p (cN p (fun (x:Nat)=>3) (List.take (List.length l.l) l.l)) (AV.mp 2)))) (okS p (cN p (fun (x:Nat)=>3) (List.take (List.length l.l) l.l)) (List.getD l.l (List.length l.l) default))) ((↑(List.length l.l):Int))) ([cells false 2 (nth [int i64 p.atoms,af p.rules]),cells false 27 (ad p (if okS p (cN p (fun (x:Nat)=>3) (List.take (List.length l.l) l.l)) (List.getD l.l (List.length l.l) default)=true then newS p (cN p (fun (x:Nat)=>3) (List.take (List.length l.l) l.l)) (List.getD l.l (List.length l.l) default) else cN p (fun (x:Nat)=>3) (List.take (List.length l.l) l.l)) (AV.mp 2)),AObj.map (esF p.rules.l),cells false 2 (nth u1)])) ([int i64 (List.getD l.l (List.length l.l) default).rule,fz (List.getD l.l (List.length l.l) default).atoms.2 1 (List.length (List.getD l.l (List.length l.l) default).atoms.l) fun i x=>ah (List.getD l.l (List.length l.l) default).atoms.l i])) ⟨fun c1=>have c1:(↑(List.length l.l):Int)<(↑(List.length l.l):Int):=(of_decide_eq_true c1);⟨omg,omg,omg,(fun c hc=>match c,hc with|0,_=>krf|1,_=>krf ),omg,(fun _ _=>⟨rfl,(kz _ _ _ _)⟩),⟨rfl,(rB _ _ _ _ _ _ _ _ _ omg omg (by simp at * <;> omega) omg (by simp at * <;> omega) _)⟩,fun c2=>have c2:okS p (cN p (fun (x:Nat)=>3) (List.take (List.length l.l) l.l)) (List.getD l.l (List.length l.l) default)=false:=((Bool.not_eq_true' _).mp c2);?_,fun c2=>have c2:okS p (cN p (fun (x:Nat)=>3) (List.take (List.length l.l) l.l)) (List.getD l.l (List.length l.l) default)=true:=((Bool.not_eq_false' _).mp c2);⟨omg,?_⟩⟩,fun c1=>have c1:¬(↑(List.length l.l):Int)<(↑(List.length l.l):Int):=(of_decide_eq_false c1);?_⟩
   all_goals first|(exfalso;omega)|skip
   refine⟨_,yG _,vcR [] (lkL [(10,[4,5])]) (fun _=>[]) (fun (Q:AEx->St R.σ->Prop)=>Q AEx.ret (St.mk [(4,int i64 0),(5,int i64 0)] [cells false 2 (nth [int i64 p.atoms,af p.rules]),cells false 27 (ad p (cN p (fun (x:Nat)=>3) (List.take (List.length l.l) l.l)) (AV.mp 2)),AObj.map (esF p.rules.l)] g)) (?_)⟩
   refine(av (cu _ _ rfl trivial ⟨⟨trivial,trivial⟩,trivial⟩ rfl) (yu _))
section
variable {p:Prg}{n:Nat}{v:List Int}{f:Nat->Int}
end
end Go.Avm.Pack
namespace Go.Avm.Pack
open Go Go.Avm Go.Proofs
open Go.IntKind (i64 u64)
open Go.Avm.AV (int bool any fz fp sl ow ref fn ifc val agg tup)
open Go.Avm.AObj (cells dead)
open Go.Avm.Oc (ret)
set_option maxRecDepth 4000
theorem rD (R:Res)(a b:KL Int)(hp:List AObj)(g:R.σ)(ha:a.l.length<1000000):Does Tryd.prog R 42 [ag a,ag b] hp g (.ret (.bool (decide (a.l=b.l)))) hp g:=by
 refine bW (fun R g=>?_) (by exact⟨trivial,trivial,trivial⟩) R hp g
 refine spW (nt:=26) (rs:=[.tmp 4]) (k0:=0) ?_
 refine vcR [] (lkL [(0,[0,1]),(1,[0,1,10]),(2,[4]),(3,[0,1,12,13])]) (fun _=>[]) (fun Q=>(fun (u1:Bool)=>(u1=true->Q AEx.ret (St.mk [(4,AV.bool false)] [] g))/\(u1=false->WpC Tryd.prog R 26 0 42 [1,1,0,1,0] Q [Kont.blk 0,Kont.seq [1,1,1]] (St.mk [(0,ag a),(1,ag b),(12,int i64 (↑(List.length a.l):Int)),(13,int i64 0)] [] g))) ((↑(List.length a.l):Int) != (↑(List.length b.l):Int))) ⟨fun c1=>have c1:¬(↑(List.length a.l):Int)=(↑(List.length b.l):Int):=(bne_iff_ne.mp c1);?_,fun c1=>have c1:(↑(List.length a.l):Int)=(↑(List.length b.l):Int):=(bne_eq_false_iff_eq.mp c1);?_⟩
 ·have hne:a.l≠b.l:=fun e=>by
   rw[e] at c1
   omega
  rw[decide_eq_false hne]
  refine(av (aS _ _ rfl trivial rfl rfl rfl) (yu _))
 ·have hle:a.l.length=b.l.length:=by omega
  refine(bq krf (fun (i:Nat)=>⟨[(0,ag a),(1,ag b),(12,int i64 (a.l.length:Int)),(13,.int .i64 i)],[],g⟩) (fun (i:Nat)=>(i<=a.l.length/\∀j,j<i->a.l.getD j 0=b.l.getD j 0)) (fun (i:Nat)=>(a.l.length-i)) 0 (bg ⟨yu _,yu _,yu _,(yv krf),trivial⟩ rfl rfl) ?_ (fun i hi=>?_))
  ·exact⟨Nat.zero_le _,fun j hj=>absurd hj (Nat.not_lt_zero _)⟩
  ·obtain⟨h1,h2⟩:=hi
   refine vcR [] (lkL [(4,[0,1,12,13,14]),(5,[0,1,5,12,13]),(6,[0,1,12,13,24]),(7,[4]),(8,[0,1,12,13])]) (fun _=>[]) (fun Q=>(fun (u1:Int)=>(fun (u2:Int)=>(decide (u2<u1)=true->Flw Tryd.prog/\(0<=u2/\u2<u1)/\1<=1/\(0<=u2/\u2<(↑(List.length b.l):Int))/\1<=1/\((List.getD a.l i 0 != List.getD b.l i 0)=true->Q AEx.ret (St.mk [(4,AV.bool false)] [] g))/\((List.getD a.l i 0 != List.getD b.l i 0)=false->(-9223372036854775808<=u2+1/\u2+1<=9223372036854775807)/\Q AEx.normal (St.mk [(0,ag a),(1,ag b),(12,int i64 u1),(13,int i64 (u2+1))] [] g)))/\(decide (u2<u1)=false->Q (AEx.exit 0) (St.mk [(0,ag a),(1,ag b),(12,int i64 u1),(13,int i64 u2),(14,AV.bool (decide (u2<u1)))] [] g))) ((↑i:Int))) ((↑(List.length a.l):Int))) ⟨fun c1=>have c1:(↑i:Int)<(↑(List.length a.l):Int):=(of_decide_eq_true c1);⟨krf,omg,omg,omg,omg,fun c2=>have c2:¬List.getD a.l i 0=List.getD b.l i 0:=(bne_iff_ne.mp c2);?_,fun c2=>have c2:List.getD a.l i 0=List.getD b.l i 0:=(bne_eq_false_iff_eq.mp c2);⟨omg,?_⟩⟩,fun c1=>have c1:¬(↑i:Int)<(↑(List.length a.l):Int):=(of_decide_eq_false c1);?_⟩
   ·have hne:a.l≠b.l:=fun e=>by
     rw[e] at c2
     exact c2 rfl
    rw[decide_eq_false hne]
    refine⟨_,yG _,(av (aS _ _ rfl trivial rfl rfl rfl) (yu _))⟩
   ·refine(aY (i+1) (bg ⟨yu _,yu _,yu _,(yv krf),trivial⟩ rfl rfl) ?_ ?_)
    ·refine⟨omg,fun j hj=>?_⟩
     rcases Nat.lt_or_ge j i with h|h
     ·exact h2 j h
     ·have:j=i:=by omega
      subst this
      exact c2
    ·omega
   ·have hie:i=a.l.length:=by omega
    subst hie
    have he:a.l=b.l:=ko 0 hle (fun j hj=>h2 j hj)
    rw[decide_eq_true he]
    refine⟨_,yG _,vcR [] (lkL [(9,[4])]) (fun _=>[]) (fun (Q:AEx->St R.σ->Prop)=>Q AEx.ret (St.mk [(4,AV.bool true)] [] g)) (?_)⟩
    refine(av (aS _ _ rfl trivial rfl rfl rfl) (yu _))
def kK1:KL Int:=⟨[2],.exa⟩
def kK2:KL Int:=⟨[2,3],.exa⟩
def kS1:KL Step:=⟨[⟨-1,kK1⟩],.exa⟩
def kS2:KL Step:=⟨[⟨-1,kK2⟩],.exa⟩
def kI1:KL Int:=⟨[0,1,2,3],.exa⟩
def kI4:KL Int:=⟨[4,5],.exa⟩
def kM1:KL Int:=⟨[0,1,5],.exa⟩
def kM2:KL Int:=⟨[0,1,4],.exa⟩
def kM (i:Nat):KL Int:=[kM1,kM2].getD i ⟨[],.nil⟩
def kV:KL Int:=⟨[3,3,3],.exa⟩
def kN:KL Step:=⟨[],.auto⟩
theorem x8:em tA kS1.l (fun _=>3) 0=0:=by kernel_rfl
theorem x9:em tA kS2.l (fun _=>3) 0 = -1:=by kernel_rfl
theorem ya:(aj (hgP tA 1)).l=kI1.l:=by kernel_rfl
theorem yb:(aj (hgP tA 4)).l=kI4.l:=by kernel_rfl
theorem yd:(ak (az tA (hgP tA 4))).2 4=3:=by kernel_rfl
theorem ye:dw (hgP tA 4) (aV (hgP tA 4) tA.rules.l 0) (ak (az tA (hgP tA 4))).1=kN:=by kernel_rfl
theorem yf:(bo (dx tA)).length<=10:=by decide
theorem rE:stP tA 9=[35,19]:=by kernel_rfl
theorem yg:bB (ak tB).1=kN:=by kernel_rfl
theorem rF:(cE tB (ak tB).2).l=kV.l:=by kernel_rfl
theorem yh (R:Res)[Tab LT R](g:R.σ):Does Tryd.prog R 10 [] [] g (.ret (.bool true)) [] g:=by
 have hA:∀(R:Res) (hp:List AObj) (g:R.σ),Does Tryd.prog R 44 [] hp g (.ret (aq tA)) hp g:=fun R hp g=>c_A R hp g
 have hB:∀(R:Res) (hp:List AObj) (g:R.σ),Does Tryd.prog R 45 [] hp g (.ret (aq tB)) hp g:=fun R hp g=>c_B R hp g
 have hW1:∀(R:Res) [Tab LT R] (g:R.σ),Does Tryd.prog R 23 [aq tA,ay kS1] [] g (.ret (.tup 2 (nth [.int .i64 0,.int .i64 7]))) [] g:=fun R _ g=>by
  have h:=rC R tA kS1 dX dcd (fun i=>match i with|0=>by decide|_+1=>(by decide:(default:Step).atoms.l.length<1000000)) g
  rw[x8] at h
  exact h
 have hW2:∀(R:Res) [Tab LT R] (g:R.σ),Does Tryd.prog R 23 [aq tA,ay kS2] [] g (.ret (.tup 2 (nth [.int .i64 0,.int .i64 0]))) [] g:=fun R _ g=>by
  have h:=rC R tA kS2 dX dcd (fun i=>match i with|0=>by decide|_+1=>(by decide:(default:Step).atoms.l.length<1000000)) g
  rw[x9] at h
  exact h
 have hR1:∀(R:Res) [Tab LT R] (g:R.σ),Does Tryd.prog R 30 [aq tA,.int .i64 1] [] g (.ret (.tup 2 (nth [ag (aj (hgP tA 1)),.int .i64 0]))) [] g:=fun R _ g=>qR R tA 1 dX dcd g
 have hR4:∀(R:Res) [Tab LT R] (g:R.σ),Does Tryd.prog R 30 [aq tA,.int .i64 4] [] g (.ret (.tup 2 (nth [ag (aj (hgP tA 4)),.int .i64 0]))) [] g:=fun R _ g=>qR R tA 4 dX dcd g
 have hE1:∀(R:Res) (hp:List AObj) (g:R.σ),Does Tryd.prog R 42 [ag (aj (hgP tA 1)),ag kI1] hp g (.ret (.bool true)) hp g:=fun R hp g=>by
  have h:=rD R (aj (hgP tA 1)) kI1 hp g jy
  rw[decide_eq_true ya] at h
  exact h
 have hE4:∀(R:Res) (hp:List AObj) (g:R.σ),Does Tryd.prog R 42 [ag (aj (hgP tA 4)),ag kI4] hp g (.ret (.bool true)) hp g:=fun R hp g=>by
  have h:=rD R (aj (hgP tA 4)) kI4 hp g jy
  rw[decide_eq_true yb] at h
  exact h
 have hN:∀(R:Res) [Tab LT R] (g:R.σ),Does Tryd.prog R 25 [aq tA,.int .i64 4] [] g (.ret (.tup 3 (nth [.int .i64 3,ay kN,.int .i64 0]))) [] g:=fun R _ g=>by
  have h:=rg R tA 4 dX dcd g
  rw[show(4:Int).toNat=4 from rfl,yd,ye] at h
  exact h
 have hT:∀(R:Res) [Tab LT R] (g:R.σ),Does Tryd.prog R 27 [aq tA,.int .i64 9] [] g (.ret (.tup 2 (nth [cw 2 (fun i=>aj ((stP tA 9).getD i 0)),.int .i64 0]))) [] g:=fun R _ g=>by
  have h:=ru R tA 9 dX dcd yf g
  rw[show(stP tA 9).length=2 by rw[rE];rfl] at h
  exact h
 have hT0:∀(R:Res) (hp:List AObj) (g:R.σ),Does Tryd.prog R 27 [aq tA,.int .i64 0] hp g (.ret (.tup 2 (nth [.fz .nil 0 0 (fun _ _=>.any),.int .i64 2]))) hp g:=fun R hp g=>xE R tA 0 dcd (ff dX) (by rw[dX];rfl) hp g
 have hD:∀(R:Res) [Tab LT R] (g:R.σ),Does Tryd.prog R 17 [aq tB] [] g (.ret (.tup 3 (nth [ay kN,ag (cE tB (ak tB).2),.int .i64 0]))) [] g:=fun R _ g=>by
  have h:=qP R tB rx g
  rw[yg] at h
  exact h
 have hL:∀(R:Res) (hp:List AObj) (g:R.σ),Does Tryd.prog R 29 [cw 2 (fun i=>aj ((stP tA 9).getD i 0)),lsX 2 kM] hp g (.ret (.bool true)) hp g:=fun R hp g=>ns R 2 _ _ hp g dcd (fun i hi=>by
  rw[rE]
  match i,hi with
  |0,_=>exact of_decide_eq_true krf
  |1,_=>exact of_decide_eq_true krf) (fun i=>jy)
 have hV:∀(R:Res) (hp:List AObj) (g:R.σ),Does Tryd.prog R 21 [ag (cE tB (ak tB).2),ag kV] hp g (.ret (.bool true)) hp g:=fun R hp g=>by
  have h:=qc R (cE tB (ak tB).2) kV hp g (by rw[rF];decide)
  rw[decide_eq_true (show(cE tB (ak tB).2).l=kV.l from rF)] at h
  exact h
 obtain⟨n1,e1⟩:∃v,v=ag (aj (hgP tA 1)):=⟨_,rfl⟩
 obtain⟨n2,e2⟩:∃v,v=ag (aj (hgP tA 4)):=⟨_,rfl⟩
 obtain⟨n3,e3⟩:∃v,v=cw 2 (fun i=>aj ((stP tA 9).getD i 0)):=⟨_,rfl⟩
 obtain⟨n4,e4⟩:∃v,v=ag (cE tB (ak tB).2):=⟨_,rfl⟩
 simp only[<-e1,<-e2,<-e3,<-e4] at hR1 hR4 hE1 hE4 hT hD hL hV
 obtain⟨a,ha⟩:∃v,v=tA:=⟨_,rfl⟩
 obtain⟨b,hb⟩:∃v,v=tB:=⟨_,rfl⟩
 obtain⟨q,hq⟩:∃v,v=kN:=⟨_,rfl⟩
 obtain⟨s1,hs1⟩:∃v,v=kS1:=⟨_,rfl⟩
 obtain⟨s2,hs2⟩:∃v,v=kS2:=⟨_,rfl⟩
 rw[<-ha] at hA hW1 hW2 hR1 hR4 hN hT hT0
 rw[<-hb] at hB hD
 rw[<-hq] at hN hD
 rw[<-hs1] at hW1
 rw[<-hs2] at hW2
 have hq0:((q.l.length:Int)==0)=true:=by rw[hq];rfl
 obtain⟨k1,w1⟩:∃v,v=kK1:=⟨_,rfl⟩
 obtain⟨k2,w2⟩:∃v,v=kK2:=⟨_,rfl⟩
 obtain⟨i1,w3⟩:∃v,v=kI1:=⟨_,rfl⟩
 obtain⟨i4,w4⟩:∃v,v=kI4:=⟨_,rfl⟩
 obtain⟨m1,w5⟩:∃v,v=kM1:=⟨_,rfl⟩
 obtain⟨m2,w6⟩:∃v,v=kM2:=⟨_,rfl⟩
 obtain⟨q2,w7⟩:∃v,v=kM:=⟨_,rfl⟩
 obtain⟨v,w8⟩:∃v,v=kV:=⟨_,rfl⟩
 rw[<-w3] at hE1
 rw[<-w4] at hE4
 rw[<-w7] at hL
 rw[<-w8] at hV
 refine spW (nt:=139) (rs:=[.tmp 0]) (k0:=0) ?_
 refine vcR [[1,1,1,1,1,0,1,0]] (lkL [(1,[1,2]),(2,[1,2,3,4]),(3,[1,2,3,4,5,6]),(4,[1,2,3,4,5,6,7,8]),(5,[73]),(7,[2,9,10]),(8,[2,4,9,10,11]),(9,[2,4,6,9,10,11,12,13]),(10,[2,4,6,8,9,10,11,12,13]),(11,[0])]) (lkL [(1,[(0,ROrc.pcall (aq a)),(1,ROrc.kop (ag k1)),(3,ROrc.kop (ay s1)),(4,ROrc.kcall (tup 2 (nth [int i64 0,int i64 7])))]),(2,[(0,ROrc.pcall (aq a)),(1,ROrc.kop (ag k2)),(3,ROrc.kop (ay s2)),(4,ROrc.kcall (tup 2 (nth [int i64 0,int i64 0])))]),(3,[(0,ROrc.pcall (aq a)),(1,ROrc.kcall (tup 2 (nth [n1,int i64 0])))]),(4,[(0,ROrc.pcall (aq a)),(1,ROrc.kcall (tup 2 (nth [n2,int i64 0])))]),(5,[(24,ROrc.kop (ag i1)),(25,ROrc.pcall (AV.bool true)),(30,ROrc.kop (ag i4)),(31,ROrc.pcall (AV.bool true))]),(7,[(0,ROrc.pcall (aq a)),(1,ROrc.kcall (tup 3 (nth [int i64 3,ay q,int i64 0])))]),(8,[(0,ROrc.pcall (aq a)),(1,ROrc.kcall (tup 2 (nth [n3,int i64 0])))]),(9,[(0,ROrc.pcall (aq b)),(1,ROrc.kcall (tup 3 (nth [ay q,n4,int i64 0])))]),(10,[(0,ROrc.pcall (aq a)),(1,ROrc.pcall (tup 2 (nth [fz Fz.nil 0 0 fun (x x_1:Nat)=>any,int i64 2])))]),(11,[(25,ROrc.kop (ag m1)),(26,ROrc.kop (ag m2)),(27,ROrc.kop (lsX 2 q2)),(28,ROrc.pcall (AV.bool true)),(37,ROrc.kop (ag v)),(38,ROrc.pcall (AV.bool true)),(41,ROrc.kcall (AV.bool true))])]) (fun Q=>(fun (u1:List Row)=>(fun (u2:List Row)=>(fun (u3:Bool)=>(fun (u4:List (Nat × AV))=>(fun (u5:Bool)=>(fun (u6:AV)=>(fun (u7:List Row)=>(fun (u8:Operand)=>(fun (u9:Option (List Nat))=>(fun (u10:AV)=>(fun (u11:List (Nat × AV))=>(fun (u12:Nat × Bool)=>(fun (u13:Nat × Operand)=>(fun (u14:Nat × Operand)=>(fun (u15:Operand)=>(∀(hp:List AObj) (g:R.σ),true=true/\Does Tryd.prog R 44 [] hp g (ret (aq a)) hp g)/\OpOk Tryd.prog R (Oper.mk (some 16) (Op.buildSlice 53 1 #[(0,u15)]) 53 "outright.go:286" #[] none) (evO [Row.mk (some 15) none (aq a) false u9 []] [] []) [] g (ag k1) [] g/\OpOk Tryd.prog R (Oper.mk (some 18) (Op.buildSlice 29 1 #[(0,Operand.tmp 17)]) 29 "outright.go:286" #[Edge.mk 2 Ground.data] none) (evO [Row.mk (some 17) none (agg 2 (nth [int i64 (-1),ag k1])) false u9 [],Row.mk (some 16) none (ag k1) true u9 [],Row.mk (some 15) none (aq a) false u9 []] [] []) [] g (ay s1) [] g/\(true=true/\Does Tryd.prog R 23 [aq a,ay s1] [] g (ret (tup 2 (nth [u6,int i64 7]))) [] g)/\(∀(hp:List AObj) (g:R.σ),true=true/\Does Tryd.prog R 44 [] hp g (ret (aq a)) hp g)/\OpOk Tryd.prog R (Oper.mk (some 24) (Op.buildSlice 53 2 #[(0,u15),(1,u8)]) 53 "outright.go:287" #[] none) (evO [Row.mk (some 23) none (aq a) false u9 []] [(1,u6),(2,int i64 7)] []) [] g (ag k2) [] g/\OpOk Tryd.prog R (Oper.mk (some 26) (Op.buildSlice 29 1 #[(0,Operand.tmp 25)]) 29 "outright.go:287" #[Edge.mk 2 Ground.data] none) (evO [Row.mk (some 25) none (agg 2 (nth [int i64 (-1),ag k2])) false u9 [],Row.mk (some 24) none (ag k2) true u9 [],Row.mk (some 23) none (aq a) false u9 []] [(1,u6),(2,int i64 7)] []) [] g (ay s2) [] g/\(true=true/\Does Tryd.prog R 23 [aq a,ay s2] [] g (ret (tup 2 (nth [u6,u6]))) [] g)/\(∀(hp:List AObj) (g:R.σ),true=true/\Does Tryd.prog R 44 [] hp g (ret (aq a)) hp g)/\(true=true/\Does Tryd.prog R 30 [aq a,int i64 1] [] g (ret (tup 2 (nth [n1,u6]))) [] g)/\(∀(hp:List AObj) (g:R.σ),true=true/\Does Tryd.prog R 44 [] hp g (ret (aq a)) hp g)/\(true=true/\Does Tryd.prog R 30 [aq a,int i64 4] [] g (ret (tup 2 (nth [n2,u6]))) [] g)/\(true=true->OpOk Tryd.prog R (Oper.mk (some 64) (Op.buildSlice 53 4 #[u14,u13,(2,u15),(3,u8)]) 53 "outright.go:290" #[Edge.mk 22 Ground.guard] (some (22,false))) (evO u2 u11 [(22,false)]) [] g (ag i1) [] g)/\(true=true->∀(hp:List AObj) (g:R.σ),true=true/\Does Tryd.prog R 42 [n1,ag i1] hp g (ret (AV.bool true)) hp g)/\(true=true->OpOk Tryd.prog R (Oper.mk (some 70) (Op.buildSlice 53 2 #[(0,Operand.const (Value.int i64 4)),(1,Operand.const (Value.int i64 5))]) 53 "outright.go:290" #[Edge.mk 28 Ground.guard] (some (28,false))) (evO (Row.mk (some 69) (some (28,false)) n2 false u9 []::Row.mk (some 68) none (AV.bool false) false u9 []::Row.mk (some 67) none (AV.bool false) false u9 []::Row.mk (some 66) (some (22,false)) (AV.bool false) false u9 []::Row.mk (some 65) (some (22,false)) (AV.bool true) false u9 []::Row.mk (some 64) (some (22,false)) (ag i1) true u9 []::u2) u11 [(28,false)]) [] g (ag i4) [] g)/\(true=true->∀(hp:List AObj) (g:R.σ),true=true/\Does Tryd.prog R 42 [n2,ag i4] hp g (ret (AV.bool true)) hp g)/\(false=true->WpC Tryd.prog R 139 0 10 [1,1,1,1,1,0,1,0] Q [Kont.seq [1,1,1,1,1,1]] (St.mk [(73,AV.bool false)] [] g))/\(false=false->(∀(hp:List AObj) (g:R.σ),true=true/\Does Tryd.prog R 44 [] hp g (ret (aq a)) hp g)/\(true=true/\Does Tryd.prog R 25 [aq a,int i64 4] [] g (ret (tup 3 (nth [int i64 3,ay q,u6]))) [] g)/\(∀(hp:List AObj) (g:R.σ),true=true/\Does Tryd.prog R 44 [] hp g (ret (aq a)) hp g)/\(true=true/\Does Tryd.prog R 27 [aq a,int i64 9] [] g (ret (tup 2 (nth [n3,u6]))) [] g)/\(∀(hp:List AObj) (g:R.σ),true=true/\Does Tryd.prog R 45 [] hp g (ret (aq b)) hp g)/\(true=true/\Does Tryd.prog R 17 [aq b] [] g (ret (tup 3 (nth [ay q,n4,u6]))) [] g)/\(∀(hp:List AObj) (g:R.σ),true=true/\Does Tryd.prog R 44 [] hp g (ret (aq a)) hp g)/\(∀(hp:List AObj) (g:R.σ),true=true/\Does Tryd.prog R 27 [aq a,u6] hp g (ret (tup 2 (nth [fz Fz.nil 0 0 fun x x_1=>any,int i64 2]))) hp g)/\(u5=true->OpOk Tryd.prog R (Oper.mk (some 121) (Op.buildSlice 53 3 #[u14,u13,(2,Operand.const (Value.int i64 5))]) 53 "outright.go:297" #[Edge.mk 23 Ground.guard] (some u12)) (evO u1 u4 [u12]) [] g (ag m1) [] g)/\(u5=true->OpOk Tryd.prog R (Oper.mk (some 122) (Op.buildSlice 53 3 #[u14,u13,(2,Operand.const (Value.int i64 4))]) 53 "outright.go:297" #[Edge.mk 23 Ground.guard] (some u12)) (evO u7 u4 [u12]) [] g (ag m2) [] g)/\(u5=true->OpOk Tryd.prog R (Oper.mk (some 123) (Op.buildSlice 49 2 #[(0,Operand.tmp 121),(1,Operand.tmp 122)]) 49 "outright.go:297" #[Edge.mk 25 Ground.data,Edge.mk 26 Ground.data,Edge.mk 23 Ground.guard] (some u12)) (evO (Row.mk (some 122) (some u12) (ag m2) true u9 []::u7) u4 [u12]) [] g u10 [] g)/\(u5=true->∀(hp:List AObj) (g:R.σ),true=true/\Does Tryd.prog R 29 [n3,u10] hp g (ret (AV.bool true)) hp g)/\(u3=true->OpOk Tryd.prog R (Oper.mk (some 133) (Op.buildSlice 33 3 #[(0,u8),(1,u8),(2,u8)]) 33 "outright.go:297" #[Edge.mk 35 Ground.guard] (some (35,true))) (evO (Row.mk (some 132) (some (35,true)) n4 false u9 []::Row.mk (some 131) none (AV.bool u3) false u9 []::Row.mk (some 130) none (AV.bool u3) false u9 []::Row.mk (some 129) (some (30,true)) (AV.bool ((↑(List.length q.l):Int)==0)) false u9 []::Row.mk (some 128) (some (30,true)) (int i64 (↑(List.length q.l):Int)) false u9 []::Row.mk (some 127) (some (30,true)) (ay q) false u9 []::Row.mk (some 126) none (AV.bool (bif u5 then true else false)) false u9 []::Row.mk (some 125) none (AV.bool (bif u5 then true else false)) false u9 []::Row.mk (some 124) (some u12) (AV.bool true) false u9 []::Row.mk (some 123) (some u12) u10 true u9 []::Row.mk (some 122) (some u12) (ag m2) true u9 []::u7) u4 [(35,true)]) [] g (ag v) [] g)/\(u3=true->∀(hp:List AObj) (g:R.σ),true=true/\Does Tryd.prog R 21 [n4,ag v] hp g (ret (AV.bool true)) hp g)/\((bif u3 then true else false)=true->true=true/\Does Tryd.prog R 15 [] [] g (ret (AV.bool true)) [] g)/\Q AEx.ret (St.mk [(0,AV.bool (bif bif u3 then true else false then true else false))] [] g))) (Operand.const (Value.int i64 2))) ((0,Operand.const (Value.int i64 0)))) ((1,Operand.const (Value.int i64 1)))) ((23,true))) ([(1,u6),(2,int i64 7),(3,u6),(4,u6),(5,n1),(6,u6),(7,n2),(8,u6)])) (fz Fz.exa 1 2 fun i x=>ag (q2 i))) (some [])) (Operand.const (Value.int i64 3))) (Row.mk (some 121) (some (23,true)) (ag m1) true (some []) []::u1)) (int i64 0)) (bif true then(↑(List.length q.l):Int)==0 else false)) ([(2,int i64 0),(4,int i64 0),(6,int i64 0),(8,int i64 2),(9,int i64 3),(10,ay q),(11,n3),(12,ay q),(13,n4)])) (bif bif bif true then(↑(List.length q.l):Int)==0 else false then true else false then(↑(List.length q.l):Int)==0 else false)) ([Row.mk (some 63) (some (22,false)) n1 false (some []) [],Row.mk (some 62) none (AV.bool false) false (some []) [],Row.mk (some 61) none (AV.bool false) false (some []) [],Row.mk (some 60) (some (18,false)) (AV.bool false) false (some []) [],Row.mk (some 59) (some (18,false)) (int i64 0) false (some []) [],Row.mk (some 58) none (AV.bool false) false (some []) [],Row.mk (some 57) none (AV.bool false) false (some []) [],Row.mk (some 56) (some (14,false)) (AV.bool false) false (some []) [],Row.mk (some 55) (some (14,false)) (int i64 0) false (some []) [],Row.mk (some 54) none (AV.bool false) false (some []) [],Row.mk (some 53) none (AV.bool false) false (some []) [],Row.mk (some 52) (some (10,false)) (AV.bool false) false (some []) [],Row.mk (some 51) (some (10,false)) (int i64 0) false (some []) [],Row.mk (some 50) none (AV.bool false) false (some []) [],Row.mk (some 49) none (AV.bool false) false (some []) [],Row.mk (some 48) (some (6,false)) (AV.bool false) false (some []) [],Row.mk (some 47) (some (6,false)) (int i64 0) false (some []) [],Row.mk (some 46) none (AV.bool false) false (some []) [],Row.mk (some 45) none (AV.bool false) false (some []) [],Row.mk (some 44) (some (2,false)) (AV.bool false) false (some []) [],Row.mk (some 43) (some (2,false)) (int i64 0) false (some []) [],Row.mk (some 42) none (AV.bool false) false (some []) [],Row.mk (some 41) none (AV.bool false) false (some []) [],Row.mk (some 40) none (int i64 7) false (some []) []])) ([Row.mk (some 120) (some (23,true)) n3 false (some []) [],Row.mk (some 119) none (AV.bool (bif true then(↑(List.length q.l):Int)==0 else false)) false (some []) [],Row.mk (some 118) none (AV.bool (bif true then(↑(List.length q.l):Int)==0 else false)) false (some []) [],Row.mk (some 117) (some (18,true)) (AV.bool ((↑(List.length q.l):Int)==0)) false (some []) [],Row.mk (some 116) (some (18,true)) (int i64 (↑(List.length q.l):Int)) false (some []) [],Row.mk (some 115) (some (18,true)) (ay q) false (some []) [],Row.mk (some 114) none (AV.bool true) false (some []) [],Row.mk (some 113) none (AV.bool true) false (some []) [],Row.mk (some 112) (some (14,true)) (AV.bool true) false (some []) [],Row.mk (some 111) (some (14,true)) (int i64 3) false (some []) [],Row.mk (some 110) none (AV.bool true) false (some []) [],Row.mk (some 109) none (AV.bool true) false (some []) [],Row.mk (some 108) (some (10,true)) (AV.bool true) false (some []) [],Row.mk (some 107) (some (10,true)) (int i64 2) false (some []) [],Row.mk (some 106) none (AV.bool true) false (some []) [],Row.mk (some 105) none (AV.bool true) false (some []) [],Row.mk (some 104) (some (6,true)) (AV.bool true) false (some []) [],Row.mk (some 103) (some (6,true)) (int i64 0) false (some []) [],Row.mk (some 102) none (AV.bool true) false (some []) [],Row.mk (some 101) none (AV.bool true) false (some []) [],Row.mk (some 100) (some (2,true)) (AV.bool true) false (some []) [],Row.mk (some 99) (some (2,true)) (int i64 0) false (some []) [],Row.mk (some 98) none (AV.bool true) false (some []) [],Row.mk (some 97) none (AV.bool true) false (some []) [],Row.mk (some 96) none (int i64 0) false (some []) []])) ⟨(fun _ _=>⟨rfl,(hA _ _ _)⟩),?_,?_,⟨rfl,(hW1 _ _)⟩,(fun _ _=>⟨rfl,(hA _ _ _)⟩),?_,?_,⟨rfl,(hW2 _ _)⟩,(fun _ _=>⟨rfl,(hA _ _ _)⟩),⟨rfl,(hR1 _ _)⟩,(fun _ _=>⟨rfl,(hA _ _ _)⟩),⟨rfl,(hR4 _ _)⟩,?_,(fun hgd=>(fun _ _=>⟨rfl,(hE1 _ _ _)⟩)),?_,(fun hgd=>(fun _ _=>⟨rfl,(hE4 _ _ _)⟩)),fun h=>(nomatch h),fun _=>⟨(fun _ _=>⟨rfl,(hA _ _ _)⟩),⟨rfl,(hN _ _)⟩,(fun _ _=>⟨rfl,(hA _ _ _)⟩),⟨rfl,(hT _ _)⟩,(fun _ _=>⟨rfl,(hB _ _ _)⟩),⟨rfl,(hD _ _)⟩,(fun _ _=>⟨rfl,(hA _ _ _)⟩),(fun _ _=>⟨rfl,(hT0 _ _ _)⟩),?_,?_,?_,(fun hgd=>(fun _ _=>⟨rfl,(hL _ _ _)⟩)),?_,(fun hgd=>(fun _ _=>⟨rfl,(hV _ _ _)⟩)),(fun hgd=>⟨rfl,(xQ _ _)⟩),?_⟩⟩
 ·subst w1;exact bh (n:=1) (es:=1) krf (by exact⟨trivial,trivial⟩) rfl rfl (fun i hi j hj=>match i,hi,j,hj with|0,_,0,_=>krf ) (fun i hi j hj=>match i,hi,j,hj with|0,_,0,_=>trivial )
 ·subst w1 hs1;exact bh (n:=1) (es:=2) krf (by exact⟨⟨⟨trivial,trivial⟩,trivial⟩,trivial⟩) rfl rfl (fun i hi j hj=>match i,hi,j,hj with|0,_,0,_=>krf|0,_,1,_=>krf ) (fun i hi j hj=>match i,hi,j,hj with|0,_,0,_=>trivial|0,_,1,_=>trivial )
 ·subst w2;exact bh (n:=2) (es:=1) krf (by exact⟨trivial,trivial,trivial⟩) rfl rfl (fun i hi j hj=>match i,hi,j,hj with|0,_,0,_=>krf|1,_,0,_=>krf ) (fun i hi j hj=>match i,hi,j,hj with|0,_,0,_=>trivial|1,_,0,_=>trivial )
 ·subst w2 hs2;exact bh (n:=1) (es:=2) krf (by exact⟨⟨⟨trivial,trivial⟩,trivial⟩,trivial⟩) rfl rfl (fun i hi j hj=>match i,hi,j,hj with|0,_,0,_=>krf|0,_,1,_=>krf ) (fun i hi j hj=>match i,hi,j,hj with|0,_,0,_=>trivial|0,_,1,_=>trivial )
 ·intro _;subst w3;exact bh (n:=4) (es:=1) krf (by exact⟨trivial,trivial,trivial,trivial,trivial⟩) rfl rfl (fun i hi j hj=>match i,hi,j,hj with|0,_,0,_=>krf|1,_,0,_=>krf|2,_,0,_=>krf|3,_,0,_=>krf ) (fun i hi j hj=>match i,hi,j,hj with|0,_,0,_=>trivial|1,_,0,_=>trivial|2,_,0,_=>trivial|3,_,0,_=>trivial )
 ·intro _;subst w4;exact bh (n:=2) (es:=1) krf (by exact⟨trivial,trivial,trivial⟩) rfl rfl (fun i hi j hj=>match i,hi,j,hj with|0,_,0,_=>krf|1,_,0,_=>krf ) (fun i hi j hj=>match i,hi,j,hj with|0,_,0,_=>trivial|1,_,0,_=>trivial )
 ·intro _;subst w5;exact bh (n:=3) (es:=1) krf (by exact⟨trivial,trivial,trivial,trivial⟩) rfl rfl (fun i hi j hj=>match i,hi,j,hj with|0,_,0,_=>krf|1,_,0,_=>krf|2,_,0,_=>krf ) (fun i hi j hj=>match i,hi,j,hj with|0,_,0,_=>trivial|1,_,0,_=>trivial|2,_,0,_=>trivial )
 ·intro _;subst w6;exact bh (n:=3) (es:=1) krf (by exact⟨trivial,trivial,trivial,trivial⟩) rfl rfl (fun i hi j hj=>match i,hi,j,hj with|0,_,0,_=>krf|1,_,0,_=>krf|2,_,0,_=>krf ) (fun i hi j hj=>match i,hi,j,hj with|0,_,0,_=>trivial|1,_,0,_=>trivial|2,_,0,_=>trivial )
 ·intro _;subst w5 w6 w7;exact bh (n:=2) (es:=1) krf (by exact⟨trivial,trivial,trivial⟩) rfl rfl (fun i hi j hj=>match i,hi,j,hj with|0,_,0,_=>krf|1,_,0,_=>krf ) (fun i hi j hj=>match i,hi,j,hj with|0,_,0,_=>trivial|1,_,0,_=>trivial )
 ·intro _;subst w8;exact bh (n:=3) (es:=1) krf (by exact⟨trivial,trivial,trivial,trivial⟩) rfl rfl (fun i hi j hj=>match i,hi,j,hj with|0,_,0,_=>krf|1,_,0,_=>krf|2,_,0,_=>krf ) (fun i hi j hj=>match i,hi,j,hj with|0,_,0,_=>trivial|1,_,0,_=>trivial|2,_,0,_=>trivial )
 ·refine(av (aS _ _ rfl trivial rfl rfl rfl) (yv ?_))
  show(AV.bool (bif bif bif bif bif true then(↑(List.length q.l):Int)==0 else false then true else false then(↑(List.length q.l):Int)==0 else false then true else false then true else false))=_
  rw[hq0]
  rfl
end Go.Avm.Pack
namespace Go.Proofs.YtbdagmhndndliaaDoor
open Go Go.Avm Go.Avm.Pack Go.WideShapes Go.ChangeShapes Go.ChangeAt
def yi (cs:Array Value):Obj->Obj
 |.cells _ t frozen=>.cells cs t frozen
 |o=>o
noncomputable def nv (os:Os):World:=
 { World.holding Tryd.prog os ⟨#[],#[],[]⟩ with heap:=(World.holding Tryd.prog os ⟨#[],#[],[]⟩).heap.modify 0 (yi #[.int .u8 0,.int .u8 1,.int .u8 56,.int .u8 2,.int .u8 57,.int .u8 49,.int .u8 28,.int .u8 3,.int .u8 61,.int .u8 58,.int .u8 42,.int .u8 50,.int .u8 38,.int .u8 29,.int .u8 17,.int .u8 4,.int .u8 62,.int .u8 47,.int .u8 59,.int .u8 36,.int .u8 45,.int .u8 43,.int .u8 51,.int .u8 22,.int .u8 53,.int .u8 39,.int .u8 33,.int .u8 30,.int .u8 24,.int .u8 18,.int .u8 12,.int .u8 5,.int .u8 63,.int .u8 55,.int .u8 48,.int .u8 27,.int .u8 60,.int .u8 41,.int .u8 37,.int .u8 16,.int .u8 46,.int .u8 35,.int .u8 44,.int .u8 21,.int .u8 52,.int .u8 32,.int .u8 23,.int .u8 11,.int .u8 54,.int .u8 26,.int .u8 40,.int .u8 15,.int .u8 34,.int .u8 20,.int .u8 31,.int .u8 10,.int .u8 25,.int .u8 14,.int .u8 19,.int .u8 9,.int .u8 13,.int .u8 8,.int .u8 7,.int .u8 6]) }
theorem yj (os:Os):laidMet Tryd.prog Rows.tableKnownRow.laid ((nv os).forCall (fun _ _=>0) ⟨#[],#[],[]⟩).memory:=
 laidMet_of_run' 8 (by kernel_rfl) (by kernel_rfl)
theorem yk (os:Os){H:Type}(enc:TypeId × Value->H):∃places,DataW.whole enc Tryd.prog ((nv os).forCall (fun _ _=>0) ⟨#[],#[],[]⟩).memory Tryd.f10.params.toList Rows.tableKnownSpec.vars false (#[]:Array Value).toList 8=some ([],[],places):=
 ⟨[],by kernel_rfl⟩
theorem ym (W:World)(h:laidMetH Tryd.prog Rows.tableKnownRow.laid W):cC gsT (eE W):=by
 have h:laidMet Tryd.prog [("math/bits.deBruijn64tab",Lib.tabData .u8 ge)] W:=h
 exact ui (t:=164) (e:=5) (n:=64) (by kernel_rfl) (by kernel_rfl) Tryd.underlying164 Tryd.underlying5 (by kernel_rfl) (by kernel_rfl) h (fun _=>uh)
set_option maxRecDepth 100000 in
theorem yn (os:Os)(started:os.Started)(H:Type)(enc:TypeId × Value->H)(F:Stop.Interp) :
  ReturnsInHanded {} Tryd.checked os 10 .any ((OpenSpec.ofChange Rows.tableKnownSpec).preRow enc Tryd.prog Tryd.f10 Rows.tableKnownRow.domain Rows.tableKnownRow.apart Rows.tableKnownRow.laid) (((OpenSpec.ofChange Rows.tableKnownSpec).at F).post enc Tryd.prog Tryd.f10 Rows.tableKnownRow.apart Rows.tableKnownRow.fresh Rows.tableKnownRow.handsOn Rows.tableKnownRow.again):=by
 obtain⟨places,hx⟩:=yk os enc
 exact uj (C:=Tryd.checked) (s:=Rows.tableKnownSpec) (tb:=4) (gs:=gsT) (X:=fun l=>l=[]) (by kernel_rfl) started (by kernel_rfl) Tryd.func10
  (witness_row_at (enc:=enc) (C:=Tryd.checked) false (nv os) #[] rfl (by kernel_rfl) (by kernel_rfl) (by kernel_rfl)
   (OpenSpec.preRow_of_cond 8 hx (by kernel_rfl) (fun k hk=>by cases hk) (by kernel_rfl) (yj os)))
  rfl (fun ds h=>by
   match ds,h with
   |[],_=>rfl) (by kernel_rfl)
  (fun t ht=>by
   have ht:t∈([]:List Nat):=ht
   cases ht
   ) rfl Tryd.underlying4 ym
  (ua)
  (fun avs e0=>by
   subst e0
   exact yh (Res.tab gsT)  ())
theorem yp:Rows.TableKnownSaid:=
 OpenClaim.holds_of_cond 10 Tryd.f10 rfl rfl rfl rfl rfl rfl rfl ⟨rfl,rfl,rfl,rfl,rfl⟩ rfl rfl rfl rfl rfl (by kernel_rfl) Tryd.func10 (by kernel_rfl)
  (of_decide_eq_true (by kernel_rfl)) (by unfold Func.isWrapper;first|(rw[if_pos (by decide +kernel)];kernel_rfl)|(rw[if_neg (by decide +kernel)];exact⟨rfl,rfl⟩))
  (fun os started H enc _ F=>by rw[OpenClaim.pre_eq_preRow];exact yn os started H enc F)
theorem yq (f:FuncId)(fn:Func)(hf:Tryd.pinned.checked.prog.funcNamed "swingle/swinglelaw18.TableKnown"=some f)(hfn:Tryd.pinned.checked.prog.funcs[f]? = some fn) :
  true=Tryd.pinned.checked.prog.looks []/\∀(j:Nat) t,fn.params[j]? = some t->Tryd.pinned.checked.prog.wantsStandIn t=false:=by
 obtain rfl:f=10:=Option.some.inj ((show Tryd.prog.funcNamed "swingle/swinglelaw18.TableKnown"=some 10 by kernel_rfl).symm.trans hf) |>.symm
 obtain rfl:fn=Tryd.f10:=(Option.some.inj (Tryd.func10.symm.trans hfn)).symm
 refine⟨by kernel_rfl,fun j t ht=>?_⟩
 have hm:t∈(Tryd.f10.params).toList:=Array.mem_toList_iff.2 (Array.mem_of_getElem? ht)
 have hm:t∈([]:List Nat):=hm
 cases hm
theorem tableKnown_holds:Rows.TableKnownCardSaid:=
 Claim7.holds_tied_plain_at .later [] _ _ _ _ yp (fun _ h=>by cases h) (by kernel_rfl) (fun _ h=>by cases h) tableKnown_row_tie rfl ⟨rfl,rfl⟩ (by kernel_rfl) rfl yq (by kernel_rfl)
#print axioms tableKnown_holds
end Go.Proofs.YtbdagmhndndliaaDoor
