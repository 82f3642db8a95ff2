/- TableAnswers returns true, and leaves its arguments as they were. No conditions: every input that can be read as data. -/
import Derived.Test.YtbdagmhndndliaaDoorM5
namespace Go.Avm.Pack
open Go Go.Avm Go.Proofs
open Go.IntKind (i64 u64)
open Go.Avm.AV (int bool any fz fp sl ow ref fn ifc val agg tup)
open Go.Avm.AObj (cells dead)
open Go.Avm.Oc (ret)
set_option maxRecDepth 4000
theorem lI (R:Res)(v:Nat->Int)(n:Int)(x:Int)(h:0<=n/\n<=24)(g:R.σ):Does Tryd.prog R 76 [.ref 0 2,.int .i64 n,.int .i64 x] [.cells false 27 (aQ v)] g (.ret (.int .u64 (aK v x n.toNat))) [.cells false 27 (aQ v)] g:=by
 obtain⟨n,rfl⟩:∃m:Nat,n=m:=⟨n.toNat,by omega⟩
 rw[Int.toNat_natCast]
 refine az (nt:=26) (rs:=[.tmp 6]) (k0:=1) (by kernel_rfl) (by kernel_rfl) (by kernel_rfl) rfl ?_
 refine vcQ [] (lkL [(0,[0,1,2]),(1,[0,1,2,7]),(2,[0,2,7,9,10])]) (fun _=>[]) (fun Q=>Wp Tryd.prog R 26 1 Rd.top (af Tryd.prog 76) [1,1,0,1,0] (aq Tryd.prog R 26 1 Rd.top (af Tryd.prog 76) Q [Kont.blk 0,Kont.seq [1,1,1]]) (St.mk [(0,ref 0 2),(2,int i64 x),(7,int u64 0),(9,int i64 (n:Int)),(10,int i64 0)] [cells false 27 (aQ v)] g)) (fun _=>by kernel_rfl) (?_)
 refine(bg (by kernel_rfl) (fun (k:Nat)=>⟨[(0,ref 0 2),(2,int i64 x),(7,.int .u64 (aK v x k)),(9,int i64 (n:Int)),(10,.int .i64 k)],[cells false 27 (aQ v)],g⟩) (fun (k:Nat)=>(k<=n)) (fun (k:Nat)=>(n-k)) 0 (bh ⟨Le.refl _,Le.refl _,(Le.of_eq (by kernel_rfl)),Le.refl _,(Le.of_eq (by kernel_rfl)),trivial⟩ rfl rfl) ?_ (fun k hi=>?_))
 ·omega
 ·refine vcQ [] (lkL [(3,[0,2,7,9,10,11]),(4,[0,2,7,8,9,10]),(5,[0,2,7,8,9,10,19]),(6,[0,2,7,9,10]),(7,[0,2,7,9,10])]) (lkL [(5,[(4,ROrc.kop (int i64 (v k)))]),(6,[(2,ROrc.pcall (int u64 (↑(2^k):Int)))])]) (fun Q=>(fun (u1:Int)=>(fun (u2:Int)=>(fun (u3:List AObj)=>(fun (u4:Int)=>(decide (u1<u2)=true->(0<=u1/\u1<(↑24:Int))/\OpOk Tryd.prog R (Oper.mk (some 17) (Op.load 43 (Operand.tmp 16)) 43 "table.go:67" #[Edge.mk 3 Ground.data] none) (evO [Row.mk (some 16) none (ref 0 (k+2)) false (some []) [],Row.mk (some 15) none (ref 0 2) false (some []) [],Row.mk (some 14) none (int i64 u1) false (some []) [],Row.mk (some 13) none (ref 0 2) false (some []) []] [(0,ref 0 2),(2,int i64 x),(7,int u64 u4),(8,int i64 u1),(9,int i64 u2),(10,int i64 u1)] []) u3 g (int i64 (v k)) u3 g/\((v k==x)=true->(∀(hp:List AObj) (g:R.σ),true=true/\Does Tryd.prog R 79 [int i64 u1] hp g (ret (int u64 (↑(2^k):Int))) hp g)/\(-9223372036854775808<=u1+1/\u1+1<=9223372036854775807)/\Q AEx.normal (St.mk [(0,ref 0 2),(2,int i64 x),(7,int u64 (IntKind.wrap u64 (↑(BitVec.toNat (BitVec.ofInt 64 u4|||BitVec.ofInt 64 (↑(2^k):Int))):Int))),(9,int i64 u2),(10,int i64 (u1+1))] u3 g))/\((v k==x)=false->(-9223372036854775808<=u1+1/\u1+1<=9223372036854775807)/\Q AEx.normal (St.mk [(0,ref 0 2),(2,int i64 x),(7,int u64 u4),(9,int i64 u2),(10,int i64 (u1+1))] u3 g)))/\(decide (u1<u2)=false->Q (AEx.exit 0) (St.mk [(0,ref 0 2),(2,int i64 x),(7,int u64 u4),(9,int i64 u2),(10,int i64 u1),(11,AV.bool (decide (u1<u2)))] u3 g))) ((↑(aK v x k):Int))) ([cells false 27 (aQ v)])) ((n:Int))) ((k:Int))) (fun _=>by kernel_rfl) ⟨fun c1=>have c1:(k:Int)<(n:Int):=(of_decide_eq_true c1);⟨by omega,?_,fun c2=>have c2:v k=x:=(beq_iff_eq.mp c2);⟨(fun _ _=>⟨rfl,(gJ _ _ (by omega) _ _)⟩),by omega,?_⟩,fun c2=>have c2:¬v k=x:=(beq_eq_false_iff_ne.mp c2);⟨by omega,?_⟩⟩,fun c1=>have c1:¬(k:Int)<(n:Int):=(of_decide_eq_false c1);?_⟩
  ·exact fF rfl rfl (by kernel_rfl) rfl (by show _+1<=27;omega) (nV (by omega) (by omega))
  ·refine(aL (k+1) (bh ⟨Le.refl _,Le.refl _,(Le.of_eq ?_),Le.refl _,(Le.of_eq (by kernel_rfl)),trivial⟩ rfl rfl) ?_ ?_)
   ·show AV.int .u64 _=AV.int .u64 _
    congr 1
    rw[iC,if_pos c2]
    exact Tb.u64_or (cb (Nat.lt_of_lt_of_le (kY v x k) (Nat.pow_le_pow_right (by decide) (by omega)))) (cb (Nat.pow_lt_pow_right (by decide) (by omega)))
   ·omega
   ·omega
  ·refine(aL (k+1) (bh ⟨Le.refl _,Le.refl _,(Le.of_eq ?_),Le.refl _,(Le.of_eq (by kernel_rfl)),trivial⟩ rfl rfl) ?_ ?_)
   ·show AV.int .u64 _=AV.int .u64 _
    rw[iC,if_neg c2]
   ·omega
   ·omega
  ·have hk:k=n:=by omega
   subst hk
   refine⟨_,To.refl _,vcQ [] (lkL [(8,[6])]) (fun _=>[]) (fun Q=>Q AEx.ret (St.mk [(6,int u64 (↑(aK v x k):Int))] [cells false 27 (aQ v)] g)) (fun _=>by kernel_rfl) (?_)⟩
   refine(ax (bj _ _ rfl trivial rfl rfl rfl) (Le.refl _))
def stF (p:Prg)(most:Nat):List Int->Nat->List Nat->List Nat
 |[],s,out=>if out.length=most then out else if fol p.rules.l s=s then out++[s] else out
 |a::r,s,out=>if out.length=most then out else stF p most r (s|||2^a.toNat) (stF p most r s out)
theorem eM {p:Prg}{most:Nat}:∀{r:List Int} {s:Nat} {out:List Nat},out.length<=most->out.length<=(stF p most r s out).length/\(stF p most r s out).length<=most/\((stF p most r s out).length=out.length->stF p most r s out=out)
 |[],s,out,h=>by
  show out.length<=(if out.length=most then out else if fol p.rules.l s=s then out++[s] else out).length/\_
  show _/\(if out.length=most then out else if fol p.rules.l s=s then out++[s] else out).length<=most/\((if out.length=most then out else if fol p.rules.l s=s then out++[s] else out).length=out.length->(if out.length=most then out else if fol p.rules.l s=s then out++[s] else out)=out)
  split
  ·exact⟨Nat.le_refl _,h,fun _=>rfl⟩
  ·split
   ·rw[List.length_append,List.length_singleton]
    exact⟨by omega,by omega,fun h=>by omega⟩
   ·exact⟨Nat.le_refl _,h,fun _=>rfl⟩
 |a::r,s,out,h=>by
  obtain⟨a1,a2,a3⟩:=eM (p:=p) (most:=most) (r:=r) (s:=s) (out:=out) h
  obtain⟨b1,b2,b3⟩:=eM (p:=p) (most:=most) (r:=r) (s:=s|||2^a.toNat) (out:=stF p most r s out) a2
  show out.length<=(if out.length=most then out else stF p most r (s|||2^a.toNat) (stF p most r s out)).length/\(if out.length=most then out else stF p most r (s|||2^a.toNat) (stF p most r s out)).length<=most/\((if out.length=most then out else stF p most r (s|||2^a.toNat) (stF p most r s out)).length=out.length->(if out.length=most then out else stF p most r (s|||2^a.toNat) (stF p most r s out))=out)
  split
  ·exact⟨Nat.le_refl _,h,fun _=>rfl⟩
  ·exact⟨by omega,b2,fun h=>by
    have h1:=a3 (by omega)
    rw[h1] at b3 b1 h ⊢
    exact b3 h⟩
theorem zh {p:Prg}{most:Nat}{r:List Int}{s:Nat}{out:List Nat}(h:out.length<=most)(h0:out≠[]):stF p most r s out≠[]:=fun e=>by
 have:=(eM (p:=p) (r:=r) (s:=s) h).1
 rw[e] at this
 exact h0 (List.length_eq_zero_iff.1 (Nat.le_zero.1 this))
structure FromC (p:Prg)(most:Nat)(O:KL Int)(r:List Int)(k:Int):Prop where
 nn:∀(R:Res) [Tab LT R] (s:Nat) (g:R.σ),s<2^24->stF p most r s []=[]->Does Tryd.prog R 78 [.int .i64 k,.int .u64 s,.ref 0 0,.ref 1 0,.ref 2 0,.ref 3 0,.ref 4 0] [.cells false 1 (fun _=>.fz .nil 0 0 (fun _ _=>.any)),.cells false 1 (fun _=>.int .i64 most),.cells false 1 (fun _=>ap O),.cells false 1 (fun _=>.fn 78 0 (nth []) 5 (nth [.ref 0 0,.ref 1 0,.ref 2 0,.ref 3 0,.ref 4 0])),.cells false 2 (nth [.int .i64 p.atoms,ae p.rules])] g (.ret (.tup 0 (nth []))) [.cells false 1 (fun _=>.fz .nil 0 0 (fun _ _=>.any)),.cells false 1 (fun _=>.int .i64 most),.cells false 1 (fun _=>ap O),.cells false 1 (fun _=>.fn 78 0 (nth []) 5 (nth [.ref 0 0,.ref 1 0,.ref 2 0,.ref 3 0,.ref 4 0])),.cells false 2 (nth [.int .i64 p.atoms,ae p.rules])] g
 nw:∀(R:Res) [Tab LT R] (s m:Nat) (L:List Nat) (g:R.σ),s<2^24->stF p most r s []=L->L≠[]->m=L.length->Does Tryd.prog R 78 [.int .i64 k,.int .u64 s,.ref 0 0,.ref 1 0,.ref 2 0,.ref 3 0,.ref 4 0] [.cells false 1 (fun _=>.fz .nil 0 0 (fun _ _=>.any)),.cells false 1 (fun _=>.int .i64 most),.cells false 1 (fun _=>ap O),.cells false 1 (fun _=>.fn 78 0 (nth []) 5 (nth [.ref 0 0,.ref 1 0,.ref 2 0,.ref 3 0,.ref 4 0])),.cells false 2 (nth [.int .i64 p.atoms,ae p.rules])] g (.ret (.tup 0 (nth []))) [.cells false 1 (fun _=>.ow true 5 m 1),.cells false 1 (fun _=>.int .i64 most),.cells false 1 (fun _=>ap O),.cells false 1 (fun _=>.fn 78 0 (nth []) 5 (nth [.ref 0 0,.ref 1 0,.ref 2 0,.ref 3 0,.ref 4 0])),.cells false 2 (nth [.int .i64 p.atoms,ae p.rules]),.cells false (m*1) (aW L)] g
 on:∀(R:Res) [Tab LT R] (s m:Nat) (L:List Nat) (g:R.σ),s<2^24->L≠[]->m=L.length->m<=most->stF p most r s L=L->Does Tryd.prog R 78 [.int .i64 k,.int .u64 s,.ref 0 0,.ref 1 0,.ref 2 0,.ref 3 0,.ref 4 0] [.cells false 1 (fun _=>.ow true 5 m 1),.cells false 1 (fun _=>.int .i64 most),.cells false 1 (fun _=>ap O),.cells false 1 (fun _=>.fn 78 0 (nth []) 5 (nth [.ref 0 0,.ref 1 0,.ref 2 0,.ref 3 0,.ref 4 0])),.cells false 2 (nth [.int .i64 p.atoms,ae p.rules]),.cells false (m*1) (aW L)] g (.ret (.tup 0 (nth []))) [.cells false 1 (fun _=>.ow true 5 m 1),.cells false 1 (fun _=>.int .i64 most),.cells false 1 (fun _=>ap O),.cells false 1 (fun _=>.fn 78 0 (nth []) 5 (nth [.ref 0 0,.ref 1 0,.ref 2 0,.ref 3 0,.ref 4 0])),.cells false 2 (nth [.int .i64 p.atoms,ae p.rules]),.cells false (m*1) (aW L)] g
 ow:∀(R:Res) [Tab LT R] (s m m':Nat) (L L':List Nat) (g:R.σ),s<2^24->L≠[]->m=L.length->m<=most->stF p most r s L=L'->m'=L'.length->m≠m'->Does Tryd.prog R 78 [.int .i64 k,.int .u64 s,.ref 0 0,.ref 1 0,.ref 2 0,.ref 3 0,.ref 4 0] [.cells false 1 (fun _=>.ow true 5 m 1),.cells false 1 (fun _=>.int .i64 most),.cells false 1 (fun _=>ap O),.cells false 1 (fun _=>.fn 78 0 (nth []) 5 (nth [.ref 0 0,.ref 1 0,.ref 2 0,.ref 3 0,.ref 4 0])),.cells false 2 (nth [.int .i64 p.atoms,ae p.rules]),.cells false (m*1) (aW L)] g (.ret (.tup 0 (nth []))) [.cells false 1 (fun _=>.ow true 6 m' 1),.cells false 1 (fun _=>.int .i64 most),.cells false 1 (fun _=>ap O),.cells false 1 (fun _=>.fn 78 0 (nth []) 5 (nth [.ref 0 0,.ref 1 0,.ref 2 0,.ref 3 0,.ref 4 0])),.cells false 2 (nth [.int .i64 p.atoms,ae p.rules]),.dead,.cells false (m'*1) (aW L')] g
theorem lJ {P:Program}{R:Res}{k0:Nat}{rs:List ResultVar}{x:AV}{hp':List AObj}{g':R.σ}{s:St R.σ}(v:AV)(ob:List Prop)(h:el (aD P) s rs=some (v,ob))(hob:ar ob)(ht:To R k0 ⟨[(0,v)],s.hp,s.g⟩ ⟨[(0,x)],hp',g'⟩):bw P R k0 rs (.ret x) hp' g' .normal s:=
 ⟨v,ob,x,_,h,hob,rfl,ht,rfl,rfl,rfl⟩
theorem lK {f:Nat->Nat}{g:FuncId}(h0:f 0=0:=by rfl)(h1:f 1=1:=by rfl)(h2:f 2=2:=by rfl)(h3:f 3=3:=by rfl)(h4:f 4=4:=by rfl):Le (.fn g 0 (nth []) 5 (nth [.ref 0 0,.ref 1 0,.ref 2 0,.ref 3 0,.ref 4 0])) (aY f (.fn g 0 (nth []) 5 (nth [.ref 0 0,.ref 1 0,.ref 2 0,.ref 3 0,.ref 4 0]))):=
 Le.fn (fun i hi=>absurd hi (Nat.not_lt_zero i)) (fun i hi=>match i,hi with
  |0,_=>Le.of_eq (by show AV.ref 0 0=.ref (f 0) 0;rw[h0])
  |1,_=>Le.of_eq (by show AV.ref 1 0=.ref (f 1) 0;rw[h1])
  |2,_=>Le.of_eq (by show AV.ref 2 0=.ref (f 2) 0;rw[h2])
  |3,_=>Le.of_eq (by show AV.ref 3 0=.ref (f 3) 0;rw[h3])
  |4,_=>Le.of_eq (by show AV.ref 4 0=.ref (f 4) 0;rw[h4]))
theorem zi {p:Prg}{most:Nat}{O:KL Int}(hm:1<=most/\most<=100)(hO:O.l.length<=10)(hl:p.rules.l.length<1000000)(hr:∀r,r∈p.rules.l->aP r):FromC p most O [] O.l.length:=by
 have hroom:aG=140737488355328:=rfl
 have hb:decide ((O.l.length:Int)<(O.l.length:Int))=false:=decide_eq_false (by omega)
 have hz:(((0:Nat):Int)==(most:Int))=false:=by rw[beq_eq_false_iff_ne];omega
 have e0:∀s L,stF p most [] s L=if L.length=most then L else if fol p.rules.l s=s then L++[s] else L:=fun s L=>rfl
 have hC:=fun (R:Res) [Tab LT R] (s:Nat) (hs:s<2^24) (g:R.σ)=>jJ R s hs g
 constructor
 ·intro R _ s g hs h
  rw[e0,if_neg (by show ¬0=most;omega)] at h
  have hf:((fol p.rules.l s:Int)==(s:Int))=false:=by
   rw[beq_eq_false_iff_ne]
   intro e
   rw[if_pos (by omega)] at h
   cases h
  refine az (nt:=47) (rs:=[]) (k0:=5) (by kernel_rfl) (by kernel_rfl) (by kernel_rfl) rfl ?_
  refine vcQ [[0,1,0],[0,1,1,1,0],[0,1,1,1,1,1,0]] (lkL [(0,[0,1,2,4,5,6,9]),(1,[0,1,2,4,5,6,14]),(4,[1,2,35])]) (lkL [(4,[(2,ROrc.pcall (int u64 (↑(fol p.rules.l s):Int)))])]) (fun Q=>(fun (u1:List AObj)=>(fun (u2:Int)=>(fun (u3:Bool)=>(fun (u4:AEx->St R.σ->Prop)=>(fun (u5:AV)=>(fun (u6:Bool)=>1<=1/\1<=1/\(u6=true->Wp Tryd.prog R 47 5 Rd.top (af Tryd.prog 78) [0,1,0] u4 (St.mk [(0,int i64 u2),(1,u5),(2,ref 0 0),(4,ref 2 0),(5,ref 3 0),(6,ref 4 0),(9,AV.bool u6)] u1 g))/\(u6=false->1<=1/\(decide (u2<u2)=true->Wp Tryd.prog R 47 5 Rd.top (af Tryd.prog 78) [0,1,1,1,0] u4 (St.mk [(0,int i64 u2),(1,u5),(2,ref 0 0),(4,ref 2 0),(5,ref 3 0),(6,ref 4 0),(14,AV.bool (decide (u2<u2)))] u1 g))/\(decide (u2<u2)=false->2<=2/\(∀(hp:List AObj) (g:R.σ),true=true/\Does Tryd.prog R 80 [ay p,u5] hp g (ret (int u64 (↑(fol p.rules.l s):Int))) hp g)/\(u3=true->Wp Tryd.prog R 47 5 Rd.top (af Tryd.prog 78) [0,1,1,1,1,1,0] u4 (St.mk [(1,u5),(2,ref 0 0),(35,AV.bool u3)] u1 g))/\(u3=false->Q AEx.normal (St.mk [(1,u5),(2,ref 0 0),(35,AV.bool u3)] u1 g))))) ((↑0:Int)==(most:Int))) (int u64 (s:Int))) (aq Tryd.prog R 47 5 Rd.top (af Tryd.prog 78) Q [Kont.blk 0])) ((↑(fol p.rules.l s):Int)==(s:Int))) ((O.l.length:Int))) ([cells false 1 fun (x:Nat)=>fz Fz.nil 0 0 fun _ _=>any,cells false 1 fun (x:Nat)=>int i64 (most:Int),cells false 1 fun (x:Nat)=>fz O.2 1 (O.l.length) fun (i x:Nat)=>ab O.l i,cells false 1 fun (x:Nat)=>fn 78 0 (nth []) 5 (nth [ref 0 0,ref 1 0,ref 2 0,ref 3 0,ref 4 0]),cells false 2 (nth [int i64 p.atoms,ae p.rules])])) (fun _=>by kernel_rfl) ⟨by omega,by omega,fun hcc=>(nomatch (hz.symm.trans hcc)),fun _=>⟨by omega,fun hcc=>(nomatch (hb.symm.trans hcc)),fun _=>⟨by omega,(fun _ _=>⟨rfl,(kZ _ _ _ _ (by omega) (by omega) (by omega) _)⟩),fun hcc=>(nomatch (hf.symm.trans hcc)),fun _=>?_⟩⟩⟩
  refine(ax (bj _ _ rfl trivial rfl rfl rfl) (Le.refl _))
 ·intro R _ s m L g hs h hL hmL
  rw[e0,if_neg (by show ¬0=most;omega)] at h
  have hf:((fol p.rules.l s:Int)==(s:Int))=true:=by
   rw[beq_iff_eq]
   by_cases e:fol p.rules.l s=s
   ·omega
   ·rw[if_neg e] at h
    exact absurd h.symm hL
  rw[if_pos (by rw[beq_iff_eq] at hf;omega)] at h
  subst h
  subst hmL
  refine az (nt:=47) (rs:=[]) (k0:=5) (by kernel_rfl) (by kernel_rfl) (by kernel_rfl) rfl ?_
  refine vcQ [[0,1,0],[0,1,1,1,0],[0,1,1,1,1,1,1]] (lkL [(0,[0,1,2,4,5,6,9]),(1,[0,1,2,4,5,6,14]),(4,[1,2,35])]) (lkL [(4,[(2,ROrc.pcall (int u64 (↑(fol p.rules.l s):Int)))]),(5,[(2,ROrc.callN (fn 105 0 (nth []) 1 (nth [ref (List.length [cells false 1 fun (x:Nat)=>fz Fz.nil 0 0 fun _ _=>any,cells false 1 fun (x:Nat)=>int i64 (most:Int),cells false 1 fun (x:Nat)=>fz O.2 1 (O.l.length) fun (i x:Nat)=>ab O.l i,cells false 1 fun (x:Nat)=>fn 78 0 (nth []) 5 (nth [ref 0 0,ref 1 0,ref 2 0,ref 3 0,ref 4 0]),cells false 2 (nth [int i64 p.atoms,ae p.rules])]) 0])) [] [cells false 1 fun (x:Nat)=>int u64 (s:Int)] g),(3,ROrc.callS (fz Fz.auto 1 ((ao s).l.length) fun (i x:Nat)=>ab (ao s).l i) [(5,cells false 1 fun (j:Nat)=>any)] g),(5,ROrc.val (Orc.obj (aW ([]++[s])))),(6,ROrc.val (Orc.obj (nth [ow true 7 1 1])))])]) (fun Q=>(fun (u1:List AObj)=>(fun (u2:List AObj)=>(fun (u3:Int)=>(fun (u4:AV)=>(fun (u5:AV)=>(fun (u6:AEx->St R.σ->Prop)=>(fun (u7:AObj)=>(fun (u8:AObj)=>(fun (u9:Bool)=>(fun (u10:AV)=>(fun (u11:Bool)=>(fun (u12:AObj)=>(fun (u13:AObj)=>1<=1/\1<=1/\(u11=true->Wp Tryd.prog R 47 5 Rd.top (af Tryd.prog 78) [0,1,0] u6 (St.mk [(0,int i64 u3),(1,u10),(2,ref 0 0),(4,ref 2 0),(5,ref 3 0),(6,ref 4 0),(9,AV.bool u11)] u1 g))/\(u11=false->1<=1/\(decide (u3<u3)=true->Wp Tryd.prog R 47 5 Rd.top (af Tryd.prog 78) [0,1,1,1,0] u6 (St.mk [(0,int i64 u3),(1,u10),(2,ref 0 0),(4,ref 2 0),(5,ref 3 0),(6,ref 4 0),(14,AV.bool (decide (u3<u3)))] u1 g))/\(decide (u3<u3)=false->2<=2/\(∀(hp:List AObj) (g:R.σ),true=true/\Does Tryd.prog R 80 [ay p,u10] hp g (ret (int u64 (↑(fol p.rules.l s):Int))) hp g)/\(u9=true->Tables.follows Tryd.prog.toTables Departure.mixedOrders=true/\1<=1/\(true=true/\Does Tryd.prog R 77 [u10] u1 g (ret (fn 105 0 (nth []) 1 (nth [ref 5 0]))) u2 g)/\(true=true/\Does Tryd.prog R 75 [fn 105 0 (nth []) 1 (nth [ref 5 0])] u2 g (ret u4) [cells false 1 fun (x:Nat)=>u5,u13,u8,u7,u12,cells false 1 fun (j:Nat)=>any] g)/\0<1/\24<=aG/\1<=aG/\1<=1/\(∀(c:Nat),c<1->(fz Fz.auto 1 ((ao (([]++[s]).getD c 0)).l.length) fun (i x:Nat)=>ab (ao (([]++[s]).getD c 0)).l i)=bc 1 0 (fun _ _=>any) (fun (i j:Nat)=>ah (fun (j:Nat)=>u5) 0 1 (fun (x:Nat)=>u4) (0+i*1+j)) c)/\1<=1/\(∀(c:Nat),c<1->nth [ow true 7 1 1] c=ah (fun (x:Nat)=>u5) 0 1 (fun (x:Nat)=>ow true 7 1 1) c)/\Q AEx.normal (St.mk [] [cells false 1 (nth [ow true 7 1 1]),u13,u8,u7,u12,cells false 1 fun (j:Nat)=>any,cells false 1 (ah (fun (j:Nat)=>u5) 0 1 fun (x:Nat)=>u4),cells false 1 fun (a:Nat)=>fz Fz.auto 1 ((ao (([]++[s]).getD a 0)).l.length) fun (i x:Nat)=>ab (ao (([]++[s]).getD a 0)).l i] g))/\(u9=false->Wp Tryd.prog R 47 5 Rd.top (af Tryd.prog 78) [0,1,1,1,1,1,1] u6 (St.mk [(1,u10),(2,ref 0 0),(35,AV.bool u9)] u1 g))))) (cells false 1 fun (x:Nat)=>int i64 (most:Int))) (cells false 2 (nth [int i64 p.atoms,ae p.rules]))) ((↑0:Int)==(most:Int))) (int u64 (s:Int))) ((↑(fol p.rules.l s):Int)==(s:Int))) (cells false 1 fun (x:Nat)=>fz O.2 1 (O.l.length) fun (i x:Nat)=>ab O.l i)) (cells false 1 fun (x:Nat)=>fn 78 0 (nth []) 5 (nth [ref 0 0,ref 1 0,ref 2 0,ref 3 0,ref 4 0]))) (aq Tryd.prog R 47 5 Rd.top (af Tryd.prog 78) Q [Kont.blk 0])) (fz Fz.nil 0 0 fun _ _=>any)) (fz Fz.auto 1 ((ao s).l.length) fun (i x:Nat)=>ab (ao s).l i)) ((O.l.length:Int))) ([cells false 1 fun (x:Nat)=>fz Fz.nil 0 0 fun _ _=>any,cells false 1 fun (x:Nat)=>int i64 (most:Int),cells false 1 fun (x:Nat)=>fz O.2 1 (O.l.length) fun (i x:Nat)=>ab O.l i,cells false 1 fun (x:Nat)=>fn 78 0 (nth []) 5 (nth [ref 0 0,ref 1 0,ref 2 0,ref 3 0,ref 4 0]),cells false 2 (nth [int i64 p.atoms,ae p.rules]),cells false 1 fun (x:Nat)=>int u64 (s:Int)])) ([cells false 1 fun (x:Nat)=>fz Fz.nil 0 0 fun _ _=>any,cells false 1 fun (x:Nat)=>int i64 (most:Int),cells false 1 fun (x:Nat)=>fz O.2 1 (O.l.length) fun (i x:Nat)=>ab O.l i,cells false 1 fun (x:Nat)=>fn 78 0 (nth []) 5 (nth [ref 0 0,ref 1 0,ref 2 0,ref 3 0,ref 4 0]),cells false 2 (nth [int i64 p.atoms,ae p.rules])])) (fun _=>by kernel_rfl) ⟨by omega,by omega,fun hcc=>(nomatch (hz.symm.trans hcc)),fun _=>⟨by omega,fun hcc=>(nomatch (hb.symm.trans hcc)),fun _=>⟨by omega,(fun _ _=>⟨rfl,(kZ _ _ _ _ (by omega) (by omega) (by omega) _)⟩),fun _=>⟨by kernel_rfl,by omega,⟨rfl,(dG _ _ _ _)⟩,⟨rfl,(bp (T:=LT) inferInstance [5] 6 (fun R _ g=>hC R (s) (by omega) g) rfl rfl rfl (by exact⟨⟨rfl,Nat.le_refl _,fun j hj=>match j,hj with|0,_=>(Le.refl _) ⟩,trivial⟩) (by exact⟨by omega,trivial⟩) (by exact⟨(Le.fn (fun i hi=>absurd hi (by omega)) (fun i hi=>match i,hi with|0,_=>(Le.refl _) )),trivial⟩) (by exact aw (by exact trivial)) (by exact⟨LeO.rflc,LeO.rflc,LeO.rflc,LeO.rflc,LeO.rflc,LeO.rflc,trivial⟩))⟩,by omega,by omega,by omega,by omega,?_,by omega,(fun c hc=>match c,hc with|0,_=>(by kernel_rfl) ),?_⟩,fun hcc=>(nomatch (hf.symm.trans hcc))⟩⟩⟩
  ·exact fun c hc=>(lH (L:=[]) (m:=0) (z:=fun _=>.fz .nil 0 0 (fun _ _=>.any)) (old:=fun _ _=>.any) rfl (fun i hi=>absurd hi (Nat.not_lt_zero i)) hc).trans (by kernel_rfl)
  ·refine lJ (.tup 0 (nth [])) _ rfl trivial ?_
   refine a9 [0,1,2,3,4,7] 8 ?_ ?_ ?_ ?_ ?_ ?_ ?_
   ·rfl
   ·rfl
   ·rfl
   ·rfl
   ·rfl
   ·exact⟨Le.refl _,trivial⟩
   ·exact⟨⟨rfl,Nat.le_refl _,fun j hj=>match j,hj with|0,_=>Le.refl _⟩,LeO.refl _,LeO.refl _,⟨rfl,Nat.le_refl _,fun j hj=>lK⟩,⟨rfl,Nat.le_refl _,fun j hj=>match j,hj with|0,_=>Le.refl _|1,_=>au (by exact trivial)⟩,⟨rfl,Nat.le_refl _,fun j hj=>Le.refl _⟩,trivial⟩
 ·intro R _ s m L g hs hL hmL hmm h
  rw[e0] at h
  refine az (nt:=47) (rs:=[]) (k0:=6) (by kernel_rfl) (by kernel_rfl) (by kernel_rfl) rfl ?_
  refine vcQ [[0,1,1,1,0]] (lkL [(0,[0,1,2,4,5,6,9]),(1,[0,1,2,4,5,6,14]),(4,[1,2,35])]) (lkL [(4,[(2,ROrc.pcall (int u64 (↑(fol p.rules.l s):Int)))]),(5,[(2,ROrc.callN (fn 105 0 (nth []) 1 (nth [ref (List.length [cells false 1 fun (x:Nat)=>ow true 5 m 1,cells false 1 fun (x:Nat)=>int i64 (most:Int),cells false 1 fun (x:Nat)=>fz O.2 1 (O.l.length) fun (i x:Nat)=>ab O.l i,cells false 1 fun (x:Nat)=>fn 78 0 (nth []) 5 (nth [ref 0 0,ref 1 0,ref 2 0,ref 3 0,ref 4 0]),cells false 2 (nth [int i64 p.atoms,ae p.rules]),cells false (m*1) fun (a:Nat)=>fz Fz.auto 1 ((ao (L.getD a 0)).l.length) fun (i x:Nat)=>ab (ao (L.getD a 0)).l i]) 0])) [] [cells false 1 fun (x:Nat)=>int u64 (s:Int)] g),(3,ROrc.callS (fz Fz.auto 1 ((ao s).l.length) fun (i x:Nat)=>ab (ao s).l i) [(6,cells false 1 fun (j:Nat)=>any)] g),(6,ROrc.val (Orc.obj (nth [ow true 8 (m+1) 1])))])]) (fun Q=>(fun (u1:List AObj)=>(fun (u2:List AObj)=>(fun (u3:Int)=>(fun (u4:AV)=>(fun (u5:AObj)=>(fun (u6:AObj)=>(fun (u7:Bool)=>(fun (u8:AV)=>(fun (u9:Bool)=>(fun (u10:AObj)=>(fun (u11:AObj)=>1<=1/\1<=1/\(u9=true->Q AEx.normal (St.mk [(0,int i64 u3),(1,u8),(2,ref 0 0),(4,ref 2 0),(5,ref 3 0),(6,ref 4 0),(9,AV.bool u9)] u1 g))/\(u9=false->1<=1/\(decide (u3<u3)=true->Wp Tryd.prog R 47 6 Rd.top (af Tryd.prog 78) [0,1,1,1,0] (aq Tryd.prog R 47 6 Rd.top (af Tryd.prog 78) Q [Kont.blk 0]) (St.mk [(0,int i64 u3),(1,u8),(2,ref 0 0),(4,ref 2 0),(5,ref 3 0),(6,ref 4 0),(14,AV.bool (decide (u3<u3)))] u1 g))/\(decide (u3<u3)=false->2<=2/\(∀(hp:List AObj) (g:R.σ),true=true/\Does Tryd.prog R 80 [ay p,u8] hp g (ret (int u64 (↑(fol p.rules.l s):Int))) hp g)/\(u7=true->Tables.follows Tryd.prog.toTables Departure.mixedOrders=true/\1<=1/\(true=true/\Does Tryd.prog R 77 [u8] u1 g (ret (fn 105 0 (nth []) 1 (nth [ref 6 0]))) u2 g)/\(true=true/\Does Tryd.prog R 75 [fn 105 0 (nth []) 1 (nth [ref 6 0])] u2 g (ret u4) [cells false 1 fun (x:Nat)=>ow true 5 m 1,u11,u6,u5,u10,cells false (m*1) fun (a:Nat)=>fz Fz.auto 1 ((ao (L.getD a 0)).l.length) fun (i x:Nat)=>ab (ao (L.getD a 0)).l i,cells false 1 fun (j:Nat)=>any] g)/\0<1/\(m+1)*24<=aG/\m+1<=aG/\1<=1/\m*1<=m*1/\1<=1/\(∀(c:Nat),c<1->nth [ow true 8 (m+1) 1] c=ah (fun (x:Nat)=>ow true 5 m 1) 0 1 (fun (x:Nat)=>ow true 8 (m+1) 1) c)/\Q AEx.normal (St.mk [] [cells false 1 (nth [ow true 8 (m+1) 1]),u11,u6,u5,u10,dead,cells false 1 fun (j:Nat)=>any,cells false 1 (ah (fun (j:Nat)=>fz Fz.nil 0 0 fun _ _=>any) 0 1 fun (x:Nat)=>u4),cells false ((m+1)*1) (bc 1 m (fun (i j:Nat)=>fz Fz.auto 1 ((ao (L.getD (i*1+j) 0)).l.length) fun (i_1 x:Nat)=>ab (ao (L.getD (i*1+j) 0)).l i_1) fun (i j:Nat)=>ah (fun (j:Nat)=>fz Fz.nil 0 0 fun _ _=>any) 0 1 (fun (x:Nat)=>u4) (0+i*1+j))] g))/\(u7=false->Q AEx.normal (St.mk [(1,u8),(2,ref 0 0),(35,AV.bool u7)] u1 g))))) (cells false 1 fun (x:Nat)=>int i64 (most:Int))) (cells false 2 (nth [int i64 p.atoms,ae p.rules]))) ((m:Int)==(most:Int))) (int u64 (s:Int))) ((↑(fol p.rules.l s):Int)==(s:Int))) (cells false 1 fun (x:Nat)=>fz O.2 1 (O.l.length) fun (i x:Nat)=>ab O.l i)) (cells false 1 fun (x:Nat)=>fn 78 0 (nth []) 5 (nth [ref 0 0,ref 1 0,ref 2 0,ref 3 0,ref 4 0]))) (fz Fz.auto 1 ((ao s).l.length) fun (i x:Nat)=>ab (ao s).l i)) ((O.l.length:Int))) ([cells false 1 fun (x:Nat)=>ow true 5 m 1,cells false 1 fun (x:Nat)=>int i64 (most:Int),cells false 1 fun (x:Nat)=>fz O.2 1 (O.l.length) fun (i x:Nat)=>ab O.l i,cells false 1 fun (x:Nat)=>fn 78 0 (nth []) 5 (nth [ref 0 0,ref 1 0,ref 2 0,ref 3 0,ref 4 0]),cells false 2 (nth [int i64 p.atoms,ae p.rules]),cells false (m*1) fun (a:Nat)=>fz Fz.auto 1 ((ao (L.getD a 0)).l.length) fun (i x:Nat)=>ab (ao (L.getD a 0)).l i,cells false 1 fun (x:Nat)=>int u64 (s:Int)])) ([cells false 1 fun (x:Nat)=>ow true 5 m 1,cells false 1 fun (x:Nat)=>int i64 (most:Int),cells false 1 fun (x:Nat)=>fz O.2 1 (O.l.length) fun (i x:Nat)=>ab O.l i,cells false 1 fun (x:Nat)=>fn 78 0 (nth []) 5 (nth [ref 0 0,ref 1 0,ref 2 0,ref 3 0,ref 4 0]),cells false 2 (nth [int i64 p.atoms,ae p.rules]),cells false (m*1) fun (a:Nat)=>fz Fz.auto 1 ((ao (L.getD a 0)).l.length) fun (i x:Nat)=>ab (ao (L.getD a 0)).l i])) (fun _=>by kernel_rfl) ⟨by omega,by omega,fun c1=>have c1:(m:Int)=(most:Int):=(beq_iff_eq.mp c1);?_,fun c1=>have c1:¬(m:Int)=(most:Int):=(beq_eq_false_iff_ne.mp c1);⟨by omega,fun hcc=>(nomatch (hb.symm.trans hcc)),fun _=>⟨by omega,(fun _ _=>⟨rfl,(kZ _ _ _ _ (by omega) (by omega) (by omega) _)⟩),fun c2=>have c2:(↑(fol p.rules.l s):Int)=(s:Int):=(beq_iff_eq.mp c2);⟨by kernel_rfl,by omega,⟨rfl,(dG _ _ _ _)⟩,⟨rfl,(bp (T:=LT) inferInstance [6] 7 (fun R _ g=>hC R (s) (by omega) g) rfl rfl rfl (by exact⟨⟨rfl,Nat.le_refl _,fun j hj=>match j,hj with|0,_=>(Le.refl _) ⟩,trivial⟩) (by exact⟨by omega,trivial⟩) (by exact⟨(Le.fn (fun i hi=>absurd hi (by omega)) (fun i hi=>match i,hi with|0,_=>(Le.refl _) )),trivial⟩) (by exact aw (by exact trivial)) (by exact⟨LeO.rflc,LeO.rflc,LeO.rflc,LeO.rflc,LeO.rflc,LeO.rflc,LeO.rflc,trivial⟩))⟩,by omega,by omega,by omega,by omega,by omega,by omega,(fun c hc=>match c,hc with|0,_=>(by kernel_rfl) ),?_⟩,fun c2=>have c2:¬(↑(fol p.rules.l s):Int)=(s:Int):=(beq_eq_false_iff_ne.mp c2);?_⟩⟩⟩
  ·refine(ax (bj _ _ rfl trivial rfl rfl rfl) (Le.refl _))
  ·exfalso
   rw[if_neg (by omega),if_pos (by omega)] at h
   have:=congrArg List.length h
   rw[List.length_append,List.length_singleton] at this
   omega
  ·refine(ax (bj _ _ rfl trivial rfl rfl rfl) (Le.refl _))
 ·intro R _ s m m' L L' g hs hL hmL hmm h hm' hne
  rw[e0] at h
  have hf:((fol p.rules.l s:Int)==(s:Int))=true:=by
   rw[beq_iff_eq]
   by_cases e:fol p.rules.l s=s
   ·omega
   ·rw[if_neg e,ite_self] at h
    subst h
    omega
  have h1:¬L.length=most:=fun e=>by
   rw[if_pos e] at h
   subst h
   omega
  rw[if_neg h1,if_pos (by rw[beq_iff_eq] at hf;omega)] at h
  subst h
  have hmm1:m'=m+1:=by rw[hm',List.length_append,hmL];rfl
  subst hmm1
  have hz:((m:Int)==(most:Int))=false:=by rw[beq_eq_false_iff_ne];omega
  refine az (nt:=47) (rs:=[]) (k0:=6) (by kernel_rfl) (by kernel_rfl) (by kernel_rfl) rfl ?_
  refine vcQ [[0,1,0],[0,1,1,1,0],[0,1,1,1,1,1,1]] (lkL [(0,[0,1,2,4,5,6,9]),(1,[0,1,2,4,5,6,14]),(4,[1,2,35])]) (lkL [(4,[(2,ROrc.pcall (int u64 (↑(fol p.rules.l s):Int)))]),(5,[(2,ROrc.callN (fn 105 0 (nth []) 1 (nth [ref (List.length [cells false 1 fun (x:Nat)=>ow true 5 m 1,cells false 1 fun (x:Nat)=>int i64 (most:Int),cells false 1 fun (x:Nat)=>fz O.2 1 (O.l.length) fun (i x:Nat)=>ab O.l i,cells false 1 fun (x:Nat)=>fn 78 0 (nth []) 5 (nth [ref 0 0,ref 1 0,ref 2 0,ref 3 0,ref 4 0]),cells false 2 (nth [int i64 p.atoms,ae p.rules]),cells false (m*1) fun (a:Nat)=>fz Fz.auto 1 ((ao (L.getD a 0)).l.length) fun (i x:Nat)=>ab (ao (L.getD a 0)).l i]) 0])) [] [cells false 1 fun (x:Nat)=>int u64 (s:Int)] g),(3,ROrc.callS (fz Fz.auto 1 ((ao s).l.length) fun (i x:Nat)=>ab (ao s).l i) [(6,cells false 1 fun (j:Nat)=>any)] g),(5,ROrc.val (Orc.obj (aW (L++[s])))),(6,ROrc.val (Orc.obj (nth [ow true 8 (m+1) 1])))])]) (fun Q=>(fun (u1:List AObj)=>(fun (u2:List AObj)=>(fun (u3:Int)=>(fun (u4:AV)=>(fun (u5:AEx->St R.σ->Prop)=>(fun (u6:AObj)=>(fun (u7:AObj)=>(fun (u8:Bool)=>(fun (u9:AV)=>(fun (u10:Bool)=>(fun (u11:AObj)=>(fun (u12:AObj)=>1<=1/\1<=1/\(u10=true->Wp Tryd.prog R 47 6 Rd.top (af Tryd.prog 78) [0,1,0] u5 (St.mk [(0,int i64 u3),(1,u9),(2,ref 0 0),(4,ref 2 0),(5,ref 3 0),(6,ref 4 0),(9,AV.bool u10)] u1 g))/\(u10=false->1<=1/\(decide (u3<u3)=true->Wp Tryd.prog R 47 6 Rd.top (af Tryd.prog 78) [0,1,1,1,0] u5 (St.mk [(0,int i64 u3),(1,u9),(2,ref 0 0),(4,ref 2 0),(5,ref 3 0),(6,ref 4 0),(14,AV.bool (decide (u3<u3)))] u1 g))/\(decide (u3<u3)=false->2<=2/\(∀(hp:List AObj) (g:R.σ),true=true/\Does Tryd.prog R 80 [ay p,u9] hp g (ret (int u64 (↑(fol p.rules.l s):Int))) hp g)/\(u8=true->Tables.follows Tryd.prog.toTables Departure.mixedOrders=true/\1<=1/\(true=true/\Does Tryd.prog R 77 [u9] u1 g (ret (fn 105 0 (nth []) 1 (nth [ref 6 0]))) u2 g)/\(true=true/\Does Tryd.prog R 75 [fn 105 0 (nth []) 1 (nth [ref 6 0])] u2 g (ret u4) [cells false 1 fun (x:Nat)=>ow true 5 m 1,u12,u7,u6,u11,cells false (m*1) fun (a:Nat)=>fz Fz.auto 1 ((ao (L.getD a 0)).l.length) fun (i x:Nat)=>ab (ao (L.getD a 0)).l i,cells false 1 fun (j:Nat)=>any] g)/\0<1/\(m+1)*24<=aG/\m+1<=aG/\1<=1/\m*1<=m*1/\(∀(c:Nat),c<(m+1)*1->(fz Fz.auto 1 ((ao ((L++[s]).getD c 0)).l.length) fun (i x:Nat)=>ab (ao ((L++[s]).getD c 0)).l i)=bc 1 m (fun (i j:Nat)=>fz Fz.auto 1 ((ao (L.getD (i*1+j) 0)).l.length) fun (i_1 x:Nat)=>ab (ao (L.getD (i*1+j) 0)).l i_1) (fun (i j:Nat)=>ah (fun (j:Nat)=>fz Fz.nil 0 0 fun _ _=>any) 0 1 (fun (x:Nat)=>u4) (0+i*1+j)) c)/\1<=1/\(∀(c:Nat),c<1->nth [ow true 8 (m+1) 1] c=ah (fun (x:Nat)=>ow true 5 m 1) 0 1 (fun (x:Nat)=>ow true 8 (m+1) 1) c)/\Q AEx.normal (St.mk [] [cells false 1 (nth [ow true 8 (m+1) 1]),u12,u7,u6,u11,dead,cells false 1 fun (j:Nat)=>any,cells false 1 (ah (fun (j:Nat)=>fz Fz.nil 0 0 fun _ _=>any) 0 1 fun (x:Nat)=>u4),cells false ((m+1)*1) fun (a:Nat)=>fz Fz.auto 1 ((ao ((L++[s]).getD a 0)).l.length) fun (i x:Nat)=>ab (ao ((L++[s]).getD a 0)).l i] g))/\(u8=false->Wp Tryd.prog R 47 6 Rd.top (af Tryd.prog 78) [0,1,1,1,1,1,1] u5 (St.mk [(1,u9),(2,ref 0 0),(35,AV.bool u8)] u1 g))))) (cells false 1 fun (x:Nat)=>int i64 (most:Int))) (cells false 2 (nth [int i64 p.atoms,ae p.rules]))) ((m:Int)==(most:Int))) (int u64 (s:Int))) ((↑(fol p.rules.l s):Int)==(s:Int))) (cells false 1 fun (x:Nat)=>fz O.2 1 (O.l.length) fun (i x:Nat)=>ab O.l i)) (cells false 1 fun (x:Nat)=>fn 78 0 (nth []) 5 (nth [ref 0 0,ref 1 0,ref 2 0,ref 3 0,ref 4 0]))) (aq Tryd.prog R 47 6 Rd.top (af Tryd.prog 78) Q [Kont.blk 0])) (fz Fz.auto 1 ((ao s).l.length) fun (i x:Nat)=>ab (ao s).l i)) ((O.l.length:Int))) ([cells false 1 fun (x:Nat)=>ow true 5 m 1,cells false 1 fun (x:Nat)=>int i64 (most:Int),cells false 1 fun (x:Nat)=>fz O.2 1 (O.l.length) fun (i x:Nat)=>ab O.l i,cells false 1 fun (x:Nat)=>fn 78 0 (nth []) 5 (nth [ref 0 0,ref 1 0,ref 2 0,ref 3 0,ref 4 0]),cells false 2 (nth [int i64 p.atoms,ae p.rules]),cells false (m*1) fun (a:Nat)=>fz Fz.auto 1 ((ao (L.getD a 0)).l.length) fun (i x:Nat)=>ab (ao (L.getD a 0)).l i,cells false 1 fun (x:Nat)=>int u64 (s:Int)])) ([cells false 1 fun (x:Nat)=>ow true 5 m 1,cells false 1 fun (x:Nat)=>int i64 (most:Int),cells false 1 fun (x:Nat)=>fz O.2 1 (O.l.length) fun (i x:Nat)=>ab O.l i,cells false 1 fun (x:Nat)=>fn 78 0 (nth []) 5 (nth [ref 0 0,ref 1 0,ref 2 0,ref 3 0,ref 4 0]),cells false 2 (nth [int i64 p.atoms,ae p.rules]),cells false (m*1) fun (a:Nat)=>fz Fz.auto 1 ((ao (L.getD a 0)).l.length) fun (i x:Nat)=>ab (ao (L.getD a 0)).l i])) (fun _=>by kernel_rfl) ⟨by omega,by omega,fun hcc=>(nomatch (hz.symm.trans hcc)),fun _=>⟨by omega,fun hcc=>(nomatch (hb.symm.trans hcc)),fun _=>⟨by omega,(fun _ _=>⟨rfl,(kZ _ _ _ _ (by omega) (by omega) (by omega) _)⟩),fun _=>⟨by kernel_rfl,by omega,⟨rfl,(dG _ _ _ _)⟩,⟨rfl,(bp (T:=LT) inferInstance [6] 7 (fun R _ g=>hC R (s) (by omega) g) rfl rfl rfl (by exact⟨⟨rfl,Nat.le_refl _,fun j hj=>match j,hj with|0,_=>(Le.refl _) ⟩,trivial⟩) (by exact⟨by omega,trivial⟩) (by exact⟨(Le.fn (fun i hi=>absurd hi (by omega)) (fun i hi=>match i,hi with|0,_=>(Le.refl _) )),trivial⟩) (by exact aw (by exact trivial)) (by exact⟨LeO.rflc,LeO.rflc,LeO.rflc,LeO.rflc,LeO.rflc,LeO.rflc,LeO.rflc,trivial⟩))⟩,by omega,by omega,by omega,by omega,by omega,?_,by omega,(fun c hc=>match c,hc with|0,_=>(by kernel_rfl) ),?_⟩,fun hcc=>(nomatch (hf.symm.trans hcc))⟩⟩⟩
  ·exact fun c hc=>(lH (L:=L) (m:=m) (z:=fun _=>.fz .nil 0 0 (fun _ _=>.any)) (old:=fun i j=>aW L (i*1+j)) hmL (fun i hi=>by show aW L (i*1+0)=aW L i;rw[show i*1+0=i by omega]) hc).trans (by kernel_rfl)
  ·refine lJ (.tup 0 (nth [])) _ rfl trivial ?_
   refine a9 [0,1,2,3,4,5,8] 9 ?_ ?_ ?_ ?_ ?_ ?_ ?_
   ·rfl
   ·rfl
   ·rfl
   ·rfl
   ·rfl
   ·exact⟨Le.refl _,trivial⟩
   ·exact⟨⟨rfl,Nat.le_refl _,fun j hj=>match j,hj with|0,_=>Le.refl _⟩,LeO.refl _,LeO.refl _,⟨rfl,Nat.le_refl _,fun j hj=>lK⟩,⟨rfl,Nat.le_refl _,fun j hj=>match j,hj with|0,_=>Le.refl _|1,_=>au (by exact trivial)⟩,trivial,⟨rfl,Nat.le_refl _,fun j hj=>Le.refl _⟩,trivial⟩
theorem zj {p:Prg}{most:Nat}{O:KL Int}{r:List Int}{k:Nat}(hm:1<=most/\most<=100)(hO:O.l.length<=10)(hk:k<O.l.length)(ha24:0<=O.l.getD k 0/\O.l.getD k 0<24)(ih:FromC p most O r ((k:Int)+1)):FromC p most O (O.l.getD k 0::r) (k:Int):=by
 have hroom:aG=140737488355328:=rfl
 have hb:decide ((k:Int)<(O.l.length:Int))=true:=decide_eq_true (by omega)
 have hz:(((0:Nat):Int)==(most:Int))=false:=by rw[beq_eq_false_iff_ne];omega
 have e0:∀s L,stF p most (O.l.getD k 0::r) s L=if L.length=most then L else stF p most r (s|||2^(O.l.getD k 0).toNat) (stF p most r s L):=fun s L=>rfl
 have hor:∀s:Nat,s<2^24->IntKind.u64.wrap ((BitVec.ofInt 64 (s:Int)|||BitVec.ofInt 64 ((2^(O.l.getD k 0).toNat:Nat):Int)).toNat:Int)=((s|||2^(O.l.getD k 0).toNat:Nat):Int):=fun s hs=>Tb.u64_or (cb hs) (cb (Nat.pow_lt_pow_right (by decide) (by omega)))
 have hor24:∀s:Nat,s<2^24->s|||2^(O.l.getD k 0).toNat<2^24:=fun s hs=>jI hs (by omega)
 constructor
 ·intro R _ s g hs h
  rw[e0,if_neg (by show ¬0=most;omega)] at h
  obtain⟨t,ht⟩:∃t,s|||2^(O.l.getD k 0).toNat=t:=⟨_,rfl⟩
  have ht24:t<2^24:=by rw[<-ht];exact hor24 s hs
  have hoS:=(hor s hs).trans (congrArg (fun n:Nat=>(n:Int)) ht)
  have hL1:stF p most r s []=[]:=by
   by_cases e:stF p most r s []=[]
   ·exact e
   ·exact absurd h (zh (eM (Nat.zero_le _)).2.1 e)
  rw[hL1,ht] at h
  have i1:=fun (R:Res) [Tab LT R] (g:R.σ)=>ih.nn R s g hs hL1
  have i2:∀(R:Res) [Tab LT R] (g:R.σ),Does Tryd.prog R 78 [.int .i64 ((k:Int)+1),.int .u64 (IntKind.u64.wrap ((BitVec.ofInt 64 (s:Int)|||BitVec.ofInt 64 ((2^(O.l.getD k 0).toNat:Nat):Int)).toNat:Int)),.ref 0 0,.ref 1 0,.ref 2 0,.ref 3 0,.ref 4 0] [.cells false 1 (fun _=>.fz .nil 0 0 (fun _ _=>.any)),.cells false 1 (fun _=>.int .i64 most),.cells false 1 (fun _=>ap O),.cells false 1 (fun _=>.fn 78 0 (nth []) 5 (nth [.ref 0 0,.ref 1 0,.ref 2 0,.ref 3 0,.ref 4 0])),.cells false 2 (nth [.int .i64 p.atoms,ae p.rules])] g (.ret (.tup 0 (nth []))) [.cells false 1 (fun _=>.fz .nil 0 0 (fun _ _=>.any)),.cells false 1 (fun _=>.int .i64 most),.cells false 1 (fun _=>ap O),.cells false 1 (fun _=>.fn 78 0 (nth []) 5 (nth [.ref 0 0,.ref 1 0,.ref 2 0,.ref 3 0,.ref 4 0])),.cells false 2 (nth [.int .i64 p.atoms,ae p.rules])] g:=fun R _ g=>by rw[hoS];exact ih.nn R t g ht24 h
  refine az (nt:=47) (rs:=[]) (k0:=5) (by kernel_rfl) (by kernel_rfl) (by kernel_rfl) rfl ?_
  refine vcQ [[0,1,0],[0,1,1,1,1]] (lkL [(0,[0,1,2,4,5,6,9]),(1,[0,1,2,4,5,6,14]),(2,[0,1,4,5])]) (lkL [(2,[(4,ROrc.call (tup 0 (nth [])) [cells false 1 fun (x:Nat)=>fz Fz.nil 0 0 fun _ _=>any,cells false 1 fun (x:Nat)=>int i64 (most:Int),cells false 1 fun (x:Nat)=>ap O,cells false 1 fun (x:Nat)=>fn 78 0 (nth []) 5 (nth [ref 0 0,ref 1 0,ref 2 0,ref 3 0,ref 4 0]),cells false 2 (nth [int i64 p.atoms,ae p.rules])] g)]),(3,[(8,ROrc.pcall (int u64 (↑(2^(O.l.getD k 0).toNat):Int))),(10,ROrc.callS (tup 0 (nth [])) [(2,cells false 1 fun (x:Nat)=>ap O)] g)])]) (fun Q=>(fun (u1:List AObj)=>(fun (u2:Int)=>(fun (u3:Int)=>(fun (u4:Bool)=>1<=1/\1<=1/\(u4=true->Wp Tryd.prog R 47 5 Rd.top (af Tryd.prog 78) [0,1,0] (aq Tryd.prog R 47 5 Rd.top (af Tryd.prog 78) Q [Kont.blk 0]) (St.mk [(0,int i64 u3),(1,int u64 (s:Int)),(2,ref 0 0),(4,ref 2 0),(5,ref 3 0),(6,ref 4 0),(9,AV.bool u4)] u1 g))/\(u4=false->1<=1/\(decide (u3<u2)=true->1<=1/\(-9223372036854775808<=u3+1/\u3+1<=9223372036854775807)/\(true=true/\Does Tryd.prog R 78 [int i64 (u3+1),int u64 (s:Int),ref 0 0,ref 1 0,ref 2 0,ref 3 0,ref 4 0] u1 g (ret (tup 0 (nth []))) u1 g)/\Tables.follows Tryd.prog.toTables Departure.mixedOrders=true/\1<=1/\(-9223372036854775808<=u3+1/\u3+1<=9223372036854775807)/\1<=1/\(0<=u3/\u3<u2)/\1<=1/\(∀(hp:List AObj) (g:R.σ),true=true/\Does Tryd.prog R 79 [ab O.l k] hp g (ret (int u64 (↑(2^(O.l.getD k 0).toNat):Int))) hp g)/\(true=true/\Does Tryd.prog R 78 [int i64 (u3+1),int u64 (IntKind.wrap u64 (↑(BitVec.toNat (BitVec.ofInt 64 (s:Int)|||BitVec.ofInt 64 (↑(2^(O.l.getD k 0).toNat):Int))):Int)),ref 0 0,ref 1 0,ref 2 0,ref 3 0,ref 4 0] u1 g (ret (tup 0 (nth []))) u1 g)/\Q AEx.normal (St.mk [] u1 g))/\(decide (u3<u2)=false->Wp Tryd.prog R 47 5 Rd.top (af Tryd.prog 78) [0,1,1,1,1] (aq Tryd.prog R 47 5 Rd.top (af Tryd.prog 78) Q [Kont.blk 0]) (St.mk [(0,int i64 u3),(1,int u64 (s:Int)),(2,ref 0 0),(4,ref 2 0),(5,ref 3 0),(6,ref 4 0),(14,AV.bool (decide (u3<u2)))] u1 g)))) ((↑0:Int)==(most:Int))) ((k:Int))) ((O.l.length:Int))) ([cells false 1 fun (x:Nat)=>fz Fz.nil 0 0 fun _ _=>any,cells false 1 fun (x:Nat)=>int i64 (most:Int),cells false 1 fun (x:Nat)=>fz O.2 1 (O.l.length) fun (i x:Nat)=>ab O.l i,cells false 1 fun (x:Nat)=>fn 78 0 (nth []) 5 (nth [ref 0 0,ref 1 0,ref 2 0,ref 3 0,ref 4 0]),cells false 2 (nth [int i64 p.atoms,ae p.rules])])) (fun _=>by kernel_rfl) ⟨by omega,by omega,fun hcc=>(nomatch (hz.symm.trans hcc)),fun _=>⟨by omega,fun _=>⟨by omega,by omega,⟨rfl,(i1 _ _)⟩,by kernel_rfl,by omega,by omega,by omega,by omega,by omega,(fun _ _=>⟨rfl,(eJ _ _ (by omega) _ _)⟩),⟨rfl,(i2 _ _)⟩,?_⟩,fun hcc=>(nomatch (hb.symm.trans hcc))⟩⟩
  refine(ax (bj _ _ rfl trivial rfl rfl rfl) (Le.refl _))
 ·intro R _ s m' L' g hs h hL' hm'
  rw[e0,if_neg (by show ¬0=most;omega)] at h
  obtain⟨t,ht⟩:∃t,s|||2^(O.l.getD k 0).toNat=t:=⟨_,rfl⟩
  have ht24:t<2^24:=by rw[<-ht];exact hor24 s hs
  have hoS:=(hor s hs).trans (congrArg (fun n:Nat=>(n:Int)) ht)
  rw[ht] at h
  obtain⟨L,hL⟩:∃L,stF p most r s []=L:=⟨_,rfl⟩
  have hlen:=eM (p:=p) (most:=most) (r:=r) (s:=s) (out:=[]) (Nat.zero_le _)
  rw[hL] at h hlen
  by_cases e:L=[]
  ·subst e
   have i1:=fun (R:Res) [Tab LT R] (g:R.σ)=>ih.nn R s g hs hL
   have i2:∀(R:Res) [Tab LT R] (g:R.σ),Does Tryd.prog R 78 [.int .i64 ((k:Int)+1),.int .u64 (IntKind.u64.wrap ((BitVec.ofInt 64 (s:Int)|||BitVec.ofInt 64 ((2^(O.l.getD k 0).toNat:Nat):Int)).toNat:Int)),.ref 0 0,.ref 1 0,.ref 2 0,.ref 3 0,.ref 4 0] [.cells false 1 (fun _=>.fz .nil 0 0 (fun _ _=>.any)),.cells false 1 (fun _=>.int .i64 most),.cells false 1 (fun _=>ap O),.cells false 1 (fun _=>.fn 78 0 (nth []) 5 (nth [.ref 0 0,.ref 1 0,.ref 2 0,.ref 3 0,.ref 4 0])),.cells false 2 (nth [.int .i64 p.atoms,ae p.rules])] g (.ret (.tup 0 (nth []))) [.cells false 1 (fun _=>.ow true 5 m' 1),.cells false 1 (fun _=>.int .i64 most),.cells false 1 (fun _=>ap O),.cells false 1 (fun _=>.fn 78 0 (nth []) 5 (nth [.ref 0 0,.ref 1 0,.ref 2 0,.ref 3 0,.ref 4 0])),.cells false 2 (nth [.int .i64 p.atoms,ae p.rules]),.cells false (m'*1) (aW L')] g:=fun R _ g=>by rw[hoS];exact ih.nw R t m' L' g ht24 h hL' hm'
   refine az (nt:=47) (rs:=[]) (k0:=5) (by kernel_rfl) (by kernel_rfl) (by kernel_rfl) rfl ?_
   refine vcQ [[0,1,0],[0,1,1,1,1]] (lkL [(0,[0,1,2,4,5,6,9]),(1,[0,1,2,4,5,6,14]),(2,[0,1,4,5])]) (lkL [(2,[(4,ROrc.call (tup 0 (nth [])) [cells false 1 fun (x:Nat)=>fz Fz.nil 0 0 fun _ _=>any,cells false 1 fun (x:Nat)=>int i64 (most:Int),cells false 1 fun (x:Nat)=>ap O,cells false 1 fun (x:Nat)=>fn 78 0 (nth []) 5 (nth [ref 0 0,ref 1 0,ref 2 0,ref 3 0,ref 4 0]),cells false 2 (nth [int i64 p.atoms,ae p.rules])] g)]),(3,[(8,ROrc.pcall (int u64 (↑(2^(O.l.getD k 0).toNat):Int))),(10,ROrc.callN (tup 0 (nth [])) [(0,cells false 1 fun (x:Nat)=>ow true 5 m' 1),(2,cells false 1 fun (x:Nat)=>ap O)] [cells false (m'*1) (aW L')] g)])]) (fun Q=>(fun (u1:List AObj)=>(fun (u2:List AObj)=>(fun (u3:Int)=>(fun (u4:Int)=>(fun (u5:Bool)=>1<=1/\1<=1/\(u5=true->Wp Tryd.prog R 47 5 Rd.top (af Tryd.prog 78) [0,1,0] (aq Tryd.prog R 47 5 Rd.top (af Tryd.prog 78) Q [Kont.blk 0]) (St.mk [(0,int i64 u4),(1,int u64 (s:Int)),(2,ref 0 0),(4,ref 2 0),(5,ref 3 0),(6,ref 4 0),(9,AV.bool u5)] u1 g))/\(u5=false->1<=1/\(decide (u4<u3)=true->1<=1/\(-9223372036854775808<=u4+1/\u4+1<=9223372036854775807)/\(true=true/\Does Tryd.prog R 78 [int i64 (u4+1),int u64 (s:Int),ref 0 0,ref 1 0,ref 2 0,ref 3 0,ref 4 0] u1 g (ret (tup 0 (nth []))) u1 g)/\Tables.follows Tryd.prog.toTables Departure.mixedOrders=true/\1<=1/\(-9223372036854775808<=u4+1/\u4+1<=9223372036854775807)/\1<=1/\(0<=u4/\u4<u3)/\1<=1/\(∀(hp:List AObj) (g:R.σ),true=true/\Does Tryd.prog R 79 [ab O.l k] hp g (ret (int u64 (↑(2^(O.l.getD k 0).toNat):Int))) hp g)/\(true=true/\Does Tryd.prog R 78 [int i64 (u4+1),int u64 (IntKind.wrap u64 (↑(BitVec.toNat (BitVec.ofInt 64 (s:Int)|||BitVec.ofInt 64 (↑(2^(O.l.getD k 0).toNat):Int))):Int)),ref 0 0,ref 1 0,ref 2 0,ref 3 0,ref 4 0] u1 g (ret (tup 0 (nth []))) u2 g)/\Q AEx.normal (St.mk [] u2 g))/\(decide (u4<u3)=false->Wp Tryd.prog R 47 5 Rd.top (af Tryd.prog 78) [0,1,1,1,1] (aq Tryd.prog R 47 5 Rd.top (af Tryd.prog 78) Q [Kont.blk 0]) (St.mk [(0,int i64 u4),(1,int u64 (s:Int)),(2,ref 0 0),(4,ref 2 0),(5,ref 3 0),(6,ref 4 0),(14,AV.bool (decide (u4<u3)))] u1 g)))) ((↑0:Int)==(most:Int))) ((k:Int))) ((O.l.length:Int))) ([cells false 1 fun (x:Nat)=>ow true 5 m' 1,cells false 1 fun (x:Nat)=>int i64 (most:Int),cells false 1 fun (x:Nat)=>fz O.2 1 (O.l.length) fun (i x:Nat)=>ab O.l i,cells false 1 fun (x:Nat)=>fn 78 0 (nth []) 5 (nth [ref 0 0,ref 1 0,ref 2 0,ref 3 0,ref 4 0]),cells false 2 (nth [int i64 p.atoms,ae p.rules]),cells false (m'*1) fun (a:Nat)=>fz Fz.auto 1 ((ao (L'.getD a 0)).l.length) fun (i x:Nat)=>ab (ao (L'.getD a 0)).l i])) ([cells false 1 fun (x:Nat)=>fz Fz.nil 0 0 fun _ _=>any,cells false 1 fun (x:Nat)=>int i64 (most:Int),cells false 1 fun (x:Nat)=>fz O.2 1 (O.l.length) fun (i x:Nat)=>ab O.l i,cells false 1 fun (x:Nat)=>fn 78 0 (nth []) 5 (nth [ref 0 0,ref 1 0,ref 2 0,ref 3 0,ref 4 0]),cells false 2 (nth [int i64 p.atoms,ae p.rules])])) (fun _=>by kernel_rfl) ⟨by omega,by omega,fun hcc=>(nomatch (hz.symm.trans hcc)),fun _=>⟨by omega,fun _=>⟨by omega,by omega,⟨rfl,(i1 _ _)⟩,by kernel_rfl,by omega,by omega,by omega,by omega,by omega,(fun _ _=>⟨rfl,(eJ _ _ (by omega) _ _)⟩),⟨rfl,(i2 _ _)⟩,?_⟩,fun hcc=>(nomatch (hb.symm.trans hcc))⟩⟩
   refine(ax (bj _ _ rfl trivial rfl rfl rfl) (Le.refl _))
  ·obtain⟨m,hmL⟩:∃m,m=L.length:=⟨_,rfl⟩
   have h0:0<m:=by rw[hmL];exact List.length_pos_iff.2 e
   have hmm:m<=most:=by rw[hmL];exact hlen.2.1
   have hlen2:=eM (p:=p) (most:=most) (r:=r) (s:=t) (out:=L) hlen.2.1
   rw[h] at hlen2
   have h0':0<m':=by omega
   have hmm':m'<=most:=by omega
   have i1:=fun (R:Res) [Tab LT R] (g:R.σ)=>ih.nw R s m L g hs hL e hmL
   by_cases hmm1:m=m'
   ·have hLL:L'=L:=hlen2.2.2 (by omega)
    subst hLL
    subst hmm1
    have i2:∀(R:Res) [Tab LT R] (g:R.σ),Does Tryd.prog R 78 [.int .i64 ((k:Int)+1),.int .u64 (IntKind.u64.wrap ((BitVec.ofInt 64 (s:Int)|||BitVec.ofInt 64 ((2^(O.l.getD k 0).toNat:Nat):Int)).toNat:Int)),.ref 0 0,.ref 1 0,.ref 2 0,.ref 3 0,.ref 4 0] [.cells false 1 (fun _=>.ow true 5 m 1),.cells false 1 (fun _=>.int .i64 most),.cells false 1 (fun _=>ap O),.cells false 1 (fun _=>.fn 78 0 (nth []) 5 (nth [.ref 0 0,.ref 1 0,.ref 2 0,.ref 3 0,.ref 4 0])),.cells false 2 (nth [.int .i64 p.atoms,ae p.rules]),.cells false (m*1) (aW L')] g (.ret (.tup 0 (nth []))) [.cells false 1 (fun _=>.ow true 5 m 1),.cells false 1 (fun _=>.int .i64 most),.cells false 1 (fun _=>ap O),.cells false 1 (fun _=>.fn 78 0 (nth []) 5 (nth [.ref 0 0,.ref 1 0,.ref 2 0,.ref 3 0,.ref 4 0])),.cells false 2 (nth [.int .i64 p.atoms,ae p.rules]),.cells false (m*1) (aW L')] g:=fun R _ g=>by rw[hoS];exact ih.on R t m L' g ht24 hL' hmL hmm h
    refine az (nt:=47) (rs:=[]) (k0:=5) (by kernel_rfl) (by kernel_rfl) (by kernel_rfl) rfl ?_
    refine vcQ [[0,1,0],[0,1,1,1,1]] (lkL [(0,[0,1,2,4,5,6,9]),(1,[0,1,2,4,5,6,14]),(2,[0,1,4,5])]) (lkL [(2,[(4,ROrc.call (tup 0 (nth [])) [cells false 1 fun (x:Nat)=>ow true 5 m 1,cells false 1 fun (x:Nat)=>int i64 (most:Int),cells false 1 fun (x:Nat)=>ap O,cells false 1 fun (x:Nat)=>fn 78 0 (nth []) 5 (nth [ref 0 0,ref 1 0,ref 2 0,ref 3 0,ref 4 0]),cells false 2 (nth [int i64 p.atoms,ae p.rules]),cells false (m*1) (aW L')] g)]),(3,[(8,ROrc.pcall (int u64 (↑(2^(O.l.getD k 0).toNat):Int))),(10,ROrc.callS (tup 0 (nth [])) [(2,cells false 1 fun (x:Nat)=>ap O),(5,cells false (m*1) (aW L'))] g)])]) (fun Q=>(fun (u1:List AObj)=>(fun (u2:List AObj)=>(fun (u3:Int)=>(fun (u4:Int)=>(fun (u5:Bool)=>1<=1/\1<=1/\(u5=true->Wp Tryd.prog R 47 5 Rd.top (af Tryd.prog 78) [0,1,0] (aq Tryd.prog R 47 5 Rd.top (af Tryd.prog 78) Q [Kont.blk 0]) (St.mk [(0,int i64 u4),(1,int u64 (s:Int)),(2,ref 0 0),(4,ref 2 0),(5,ref 3 0),(6,ref 4 0),(9,AV.bool u5)] u2 g))/\(u5=false->1<=1/\(decide (u4<u3)=true->1<=1/\(-9223372036854775808<=u4+1/\u4+1<=9223372036854775807)/\(true=true/\Does Tryd.prog R 78 [int i64 (u4+1),int u64 (s:Int),ref 0 0,ref 1 0,ref 2 0,ref 3 0,ref 4 0] u2 g (ret (tup 0 (nth []))) u1 g)/\Tables.follows Tryd.prog.toTables Departure.mixedOrders=true/\1<=1/\(-9223372036854775808<=u4+1/\u4+1<=9223372036854775807)/\1<=1/\(0<=u4/\u4<u3)/\1<=1/\(∀(hp:List AObj) (g:R.σ),true=true/\Does Tryd.prog R 79 [ab O.l k] hp g (ret (int u64 (↑(2^(O.l.getD k 0).toNat):Int))) hp g)/\(true=true/\Does Tryd.prog R 78 [int i64 (u4+1),int u64 (IntKind.wrap u64 (↑(BitVec.toNat (BitVec.ofInt 64 (s:Int)|||BitVec.ofInt 64 (↑(2^(O.l.getD k 0).toNat):Int))):Int)),ref 0 0,ref 1 0,ref 2 0,ref 3 0,ref 4 0] u1 g (ret (tup 0 (nth []))) u1 g)/\Q AEx.normal (St.mk [] u1 g))/\(decide (u4<u3)=false->Wp Tryd.prog R 47 5 Rd.top (af Tryd.prog 78) [0,1,1,1,1] (aq Tryd.prog R 47 5 Rd.top (af Tryd.prog 78) Q [Kont.blk 0]) (St.mk [(0,int i64 u4),(1,int u64 (s:Int)),(2,ref 0 0),(4,ref 2 0),(5,ref 3 0),(6,ref 4 0),(14,AV.bool (decide (u4<u3)))] u2 g)))) ((↑0:Int)==(most:Int))) ((k:Int))) ((O.l.length:Int))) ([cells false 1 fun (x:Nat)=>fz Fz.nil 0 0 fun _ _=>any,cells false 1 fun (x:Nat)=>int i64 (most:Int),cells false 1 fun (x:Nat)=>fz O.2 1 (O.l.length) fun (i x:Nat)=>ab O.l i,cells false 1 fun (x:Nat)=>fn 78 0 (nth []) 5 (nth [ref 0 0,ref 1 0,ref 2 0,ref 3 0,ref 4 0]),cells false 2 (nth [int i64 p.atoms,ae p.rules])])) ([cells false 1 fun (x:Nat)=>ow true 5 m 1,cells false 1 fun (x:Nat)=>int i64 (most:Int),cells false 1 fun (x:Nat)=>fz O.2 1 (O.l.length) fun (i x:Nat)=>ab O.l i,cells false 1 fun (x:Nat)=>fn 78 0 (nth []) 5 (nth [ref 0 0,ref 1 0,ref 2 0,ref 3 0,ref 4 0]),cells false 2 (nth [int i64 p.atoms,ae p.rules]),cells false (m*1) fun (a:Nat)=>fz Fz.auto 1 ((ao (L'.getD a 0)).l.length) fun (i x:Nat)=>ab (ao (L'.getD a 0)).l i])) (fun _=>by kernel_rfl) ⟨by omega,by omega,fun hcc=>(nomatch (hz.symm.trans hcc)),fun _=>⟨by omega,fun _=>⟨by omega,by omega,⟨rfl,(i1 _ _)⟩,by kernel_rfl,by omega,by omega,by omega,by omega,by omega,(fun _ _=>⟨rfl,(eJ _ _ (by omega) _ _)⟩),⟨rfl,(i2 _ _)⟩,?_⟩,fun hcc=>(nomatch (hb.symm.trans hcc))⟩⟩
    refine(ax (bj _ _ rfl trivial rfl rfl rfl) (Le.refl _))
   ·have i2:∀(R:Res) [Tab LT R] (g:R.σ),Does Tryd.prog R 78 [.int .i64 ((k:Int)+1),.int .u64 (IntKind.u64.wrap ((BitVec.ofInt 64 (s:Int)|||BitVec.ofInt 64 ((2^(O.l.getD k 0).toNat:Nat):Int)).toNat:Int)),.ref 0 0,.ref 1 0,.ref 2 0,.ref 3 0,.ref 4 0] [.cells false 1 (fun _=>.ow true 5 m 1),.cells false 1 (fun _=>.int .i64 most),.cells false 1 (fun _=>ap O),.cells false 1 (fun _=>.fn 78 0 (nth []) 5 (nth [.ref 0 0,.ref 1 0,.ref 2 0,.ref 3 0,.ref 4 0])),.cells false 2 (nth [.int .i64 p.atoms,ae p.rules]),.cells false (m*1) (aW L)] g (.ret (.tup 0 (nth []))) [.cells false 1 (fun _=>.ow true 6 m' 1),.cells false 1 (fun _=>.int .i64 most),.cells false 1 (fun _=>ap O),.cells false 1 (fun _=>.fn 78 0 (nth []) 5 (nth [.ref 0 0,.ref 1 0,.ref 2 0,.ref 3 0,.ref 4 0])),.cells false 2 (nth [.int .i64 p.atoms,ae p.rules]),.dead,.cells false (m'*1) (aW L')] g:=fun R _ g=>by rw[hoS];exact ih.ow R t m m' L L' g ht24 e hmL hmm h hm' hmm1
    refine az (nt:=47) (rs:=[]) (k0:=5) (by kernel_rfl) (by kernel_rfl) (by kernel_rfl) rfl ?_
    refine vcQ [[0,1,0],[0,1,1,1,1]] (lkL [(0,[0,1,2,4,5,6,9]),(1,[0,1,2,4,5,6,14]),(2,[0,1,4,5])]) (lkL [(2,[(4,ROrc.call (tup 0 (nth [])) [cells false 1 fun (x:Nat)=>ow true 5 m 1,cells false 1 fun (x:Nat)=>int i64 (most:Int),cells false 1 fun (x:Nat)=>ap O,cells false 1 fun (x:Nat)=>fn 78 0 (nth []) 5 (nth [ref 0 0,ref 1 0,ref 2 0,ref 3 0,ref 4 0]),cells false 2 (nth [int i64 p.atoms,ae p.rules]),cells false (m*1) (aW L)] g)]),(3,[(8,ROrc.pcall (int u64 (↑(2^(O.l.getD k 0).toNat):Int))),(10,ROrc.callN (tup 0 (nth [])) [(0,cells false 1 fun (x:Nat)=>ow true 6 m' 1),(2,cells false 1 fun (x:Nat)=>ap O),(5,dead)] [cells false (m'*1) (aW L')] g)])]) (fun Q=>(fun (u1:List AObj)=>(fun (u2:List AObj)=>(fun (u3:List AObj)=>(fun (u4:Int)=>(fun (u5:Int)=>(fun (u6:Bool)=>1<=1/\1<=1/\(u6=true->Wp Tryd.prog R 47 5 Rd.top (af Tryd.prog 78) [0,1,0] (aq Tryd.prog R 47 5 Rd.top (af Tryd.prog 78) Q [Kont.blk 0]) (St.mk [(0,int i64 u5),(1,int u64 (s:Int)),(2,ref 0 0),(4,ref 2 0),(5,ref 3 0),(6,ref 4 0),(9,AV.bool u6)] u1 g))/\(u6=false->1<=1/\(decide (u5<u4)=true->1<=1/\(-9223372036854775808<=u5+1/\u5+1<=9223372036854775807)/\(true=true/\Does Tryd.prog R 78 [int i64 (u5+1),int u64 (s:Int),ref 0 0,ref 1 0,ref 2 0,ref 3 0,ref 4 0] u1 g (ret (tup 0 (nth []))) u3 g)/\Tables.follows Tryd.prog.toTables Departure.mixedOrders=true/\1<=1/\(-9223372036854775808<=u5+1/\u5+1<=9223372036854775807)/\1<=1/\(0<=u5/\u5<u4)/\1<=1/\(∀(hp:List AObj) (g:R.σ),true=true/\Does Tryd.prog R 79 [ab O.l k] hp g (ret (int u64 (↑(2^(O.l.getD k 0).toNat):Int))) hp g)/\(true=true/\Does Tryd.prog R 78 [int i64 (u5+1),int u64 (IntKind.wrap u64 (↑(BitVec.toNat (BitVec.ofInt 64 (s:Int)|||BitVec.ofInt 64 (↑(2^(O.l.getD k 0).toNat):Int))):Int)),ref 0 0,ref 1 0,ref 2 0,ref 3 0,ref 4 0] u3 g (ret (tup 0 (nth []))) u2 g)/\Q AEx.normal (St.mk [] u2 g))/\(decide (u5<u4)=false->Wp Tryd.prog R 47 5 Rd.top (af Tryd.prog 78) [0,1,1,1,1] (aq Tryd.prog R 47 5 Rd.top (af Tryd.prog 78) Q [Kont.blk 0]) (St.mk [(0,int i64 u5),(1,int u64 (s:Int)),(2,ref 0 0),(4,ref 2 0),(5,ref 3 0),(6,ref 4 0),(14,AV.bool (decide (u5<u4)))] u1 g)))) ((↑0:Int)==(most:Int))) ((k:Int))) ((O.l.length:Int))) ([cells false 1 fun (x:Nat)=>ow true 5 m 1,cells false 1 fun (x:Nat)=>int i64 (most:Int),cells false 1 fun (x:Nat)=>fz O.2 1 (O.l.length) fun (i x:Nat)=>ab O.l i,cells false 1 fun (x:Nat)=>fn 78 0 (nth []) 5 (nth [ref 0 0,ref 1 0,ref 2 0,ref 3 0,ref 4 0]),cells false 2 (nth [int i64 p.atoms,ae p.rules]),cells false (m*1) fun (a:Nat)=>fz Fz.auto 1 ((ao (L.getD a 0)).l.length) fun (i x:Nat)=>ab (ao (L.getD a 0)).l i])) ([cells false 1 fun (x:Nat)=>ow true 6 m' 1,cells false 1 fun (x:Nat)=>int i64 (most:Int),cells false 1 fun (x:Nat)=>fz O.2 1 (O.l.length) fun (i x:Nat)=>ab O.l i,cells false 1 fun (x:Nat)=>fn 78 0 (nth []) 5 (nth [ref 0 0,ref 1 0,ref 2 0,ref 3 0,ref 4 0]),cells false 2 (nth [int i64 p.atoms,ae p.rules]),dead,cells false (m'*1) fun (a:Nat)=>fz Fz.auto 1 ((ao (L'.getD a 0)).l.length) fun (i x:Nat)=>ab (ao (L'.getD a 0)).l i])) ([cells false 1 fun (x:Nat)=>fz Fz.nil 0 0 fun _ _=>any,cells false 1 fun (x:Nat)=>int i64 (most:Int),cells false 1 fun (x:Nat)=>fz O.2 1 (O.l.length) fun (i x:Nat)=>ab O.l i,cells false 1 fun (x:Nat)=>fn 78 0 (nth []) 5 (nth [ref 0 0,ref 1 0,ref 2 0,ref 3 0,ref 4 0]),cells false 2 (nth [int i64 p.atoms,ae p.rules])])) (fun _=>by kernel_rfl) ⟨by omega,by omega,fun hcc=>(nomatch (hz.symm.trans hcc)),fun _=>⟨by omega,fun _=>⟨by omega,by omega,⟨rfl,(i1 _ _)⟩,by kernel_rfl,by omega,by omega,by omega,by omega,by omega,(fun _ _=>⟨rfl,(eJ _ _ (by omega) _ _)⟩),⟨rfl,(i2 _ _)⟩,?_⟩,fun hcc=>(nomatch (hb.symm.trans hcc))⟩⟩
    refine lJ (.tup 0 (nth [])) _ rfl trivial ?_
    refine a9 [0,1,2,3,4,6] 7 ?_ ?_ ?_ ?_ ?_ ?_ ?_
    ·rfl
    ·rfl
    ·rfl
    ·rfl
    ·rfl
    ·exact⟨Le.refl _,trivial⟩
    ·exact⟨⟨rfl,Nat.le_refl _,fun j hj=>Le.refl _⟩,LeO.refl _,LeO.refl _,⟨rfl,Nat.le_refl _,fun j hj=>lK⟩,⟨rfl,Nat.le_refl _,fun j hj=>match j,hj with|0,_=>Le.refl _|1,_=>au (by exact trivial)⟩,⟨rfl,Nat.le_refl _,fun j hj=>Le.refl _⟩,trivial⟩
 ·intro R _ s m L g hs hL hmL hmm h
  rw[e0] at h
  have h0:0<m:=by rw[hmL];exact List.length_pos_iff.2 hL
  by_cases hf:m=most
  ·have hz:((m:Int)==(most:Int))=true:=by rw[beq_iff_eq];omega
   refine az (nt:=47) (rs:=[]) (k0:=6) (by kernel_rfl) (by kernel_rfl) (by kernel_rfl) rfl ?_
   refine vcQ [[0,1,1]] (lkL [(0,[0,1,2,4,5,6,9])]) (fun _=>[]) (fun Q=>(fun (u1:St R.σ)=>1<=1/\1<=1/\(((m:Int)==(most:Int))=true->Q AEx.normal u1)/\(((m:Int)==(most:Int))=false->Wp Tryd.prog R 47 6 Rd.top (af Tryd.prog 78) [0,1,1] (aq Tryd.prog R 47 6 Rd.top (af Tryd.prog 78) Q [Kont.blk 0]) u1)) (St.mk [(0,int i64 (k:Int)),(1,int u64 (s:Int)),(2,ref 0 0),(4,ref 2 0),(5,ref 3 0),(6,ref 4 0),(9,AV.bool ((m:Int)==(most:Int)))] [cells false 1 fun (x:Nat)=>ow true 5 m 1,cells false 1 fun (x:Nat)=>int i64 (most:Int),cells false 1 fun (x:Nat)=>fz O.2 1 (O.l.length) fun (i x:Nat)=>ab O.l i,cells false 1 fun (x:Nat)=>fn 78 0 (nth []) 5 (nth [ref 0 0,ref 1 0,ref 2 0,ref 3 0,ref 4 0]),cells false 2 (nth [int i64 p.atoms,ae p.rules]),cells false (m*1) fun (a:Nat)=>fz Fz.auto 1 ((ao (L.getD a 0)).l.length) fun (i x:Nat)=>ab (ao (L.getD a 0)).l i] g)) (fun _=>by kernel_rfl) ⟨by omega,by omega,fun _=>?_,fun hcc=>(nomatch (hz.symm.trans hcc))⟩
   refine(ax (bj _ _ rfl trivial rfl rfl rfl) (Le.refl _))
  ·have hz:((m:Int)==(most:Int))=false:=by rw[beq_eq_false_iff_ne];omega
   rw[if_neg (by omega)] at h
   obtain⟨t,ht⟩:∃t,s|||2^(O.l.getD k 0).toNat=t:=⟨_,rfl⟩
   have ht24:t<2^24:=by rw[<-ht];exact hor24 s hs
   have hoS:=(hor s hs).trans (congrArg (fun n:Nat=>(n:Int)) ht)
   rw[ht] at h
   have hlen:=eM (p:=p) (most:=most) (r:=r) (s:=s) (out:=L) (by omega)
   have hlen2:=eM (p:=p) (most:=most) (r:=r) (s:=t) (out:=stF p most r s L) hlen.2.1
   rw[h] at hlen2
   have hL1:=hlen.2.2 (by omega)
   rw[hL1] at h
   have i1:=fun (R:Res) [Tab LT R] (g:R.σ)=>ih.on R s m L g hs hL hmL hmm hL1
   have i2:∀(R:Res) [Tab LT R] (g:R.σ),Does Tryd.prog R 78 [.int .i64 ((k:Int)+1),.int .u64 (IntKind.u64.wrap ((BitVec.ofInt 64 (s:Int)|||BitVec.ofInt 64 ((2^(O.l.getD k 0).toNat:Nat):Int)).toNat:Int)),.ref 0 0,.ref 1 0,.ref 2 0,.ref 3 0,.ref 4 0] [.cells false 1 (fun _=>.ow true 5 m 1),.cells false 1 (fun _=>.int .i64 most),.cells false 1 (fun _=>ap O),.cells false 1 (fun _=>.fn 78 0 (nth []) 5 (nth [.ref 0 0,.ref 1 0,.ref 2 0,.ref 3 0,.ref 4 0])),.cells false 2 (nth [.int .i64 p.atoms,ae p.rules]),.cells false (m*1) (aW L)] g (.ret (.tup 0 (nth []))) [.cells false 1 (fun _=>.ow true 5 m 1),.cells false 1 (fun _=>.int .i64 most),.cells false 1 (fun _=>ap O),.cells false 1 (fun _=>.fn 78 0 (nth []) 5 (nth [.ref 0 0,.ref 1 0,.ref 2 0,.ref 3 0,.ref 4 0])),.cells false 2 (nth [.int .i64 p.atoms,ae p.rules]),.cells false (m*1) (aW L)] g:=fun R _ g=>by rw[hoS];exact ih.on R t m L g ht24 hL hmL hmm h
   refine az (nt:=47) (rs:=[]) (k0:=6) (by kernel_rfl) (by kernel_rfl) (by kernel_rfl) rfl ?_
   refine vcQ [[0,1,0],[0,1,1,1,1]] (lkL [(0,[0,1,2,4,5,6,9]),(1,[0,1,2,4,5,6,14]),(2,[0,1,4,5])]) (lkL [(2,[(4,ROrc.call (tup 0 (nth [])) [cells false 1 fun (x:Nat)=>ow true 5 m 1,cells false 1 fun (x:Nat)=>int i64 (most:Int),cells false 1 fun (x:Nat)=>ap O,cells false 1 fun (x:Nat)=>fn 78 0 (nth []) 5 (nth [ref 0 0,ref 1 0,ref 2 0,ref 3 0,ref 4 0]),cells false 2 (nth [int i64 p.atoms,ae p.rules]),cells false (m*1) (aW L)] g)]),(3,[(8,ROrc.pcall (int u64 (↑(2^(O.l.getD k 0).toNat):Int))),(10,ROrc.callS (tup 0 (nth [])) [(2,cells false 1 fun (x:Nat)=>ap O),(5,cells false (m*1) (aW L))] g)])]) (fun Q=>(fun (u1:List AObj)=>(fun (u2:Int)=>(fun (u3:Int)=>(fun (u4:Bool)=>1<=1/\1<=1/\(u4=true->Wp Tryd.prog R 47 6 Rd.top (af Tryd.prog 78) [0,1,0] (aq Tryd.prog R 47 6 Rd.top (af Tryd.prog 78) Q [Kont.blk 0]) (St.mk [(0,int i64 u3),(1,int u64 (s:Int)),(2,ref 0 0),(4,ref 2 0),(5,ref 3 0),(6,ref 4 0),(9,AV.bool u4)] u1 g))/\(u4=false->1<=1/\(decide (u3<u2)=true->1<=1/\(-9223372036854775808<=u3+1/\u3+1<=9223372036854775807)/\(true=true/\Does Tryd.prog R 78 [int i64 (u3+1),int u64 (s:Int),ref 0 0,ref 1 0,ref 2 0,ref 3 0,ref 4 0] u1 g (ret (tup 0 (nth []))) u1 g)/\Tables.follows Tryd.prog.toTables Departure.mixedOrders=true/\1<=1/\(-9223372036854775808<=u3+1/\u3+1<=9223372036854775807)/\1<=1/\(0<=u3/\u3<u2)/\1<=1/\(∀(hp:List AObj) (g:R.σ),true=true/\Does Tryd.prog R 79 [ab O.l k] hp g (ret (int u64 (↑(2^(O.l.getD k 0).toNat):Int))) hp g)/\(true=true/\Does Tryd.prog R 78 [int i64 (u3+1),int u64 (IntKind.wrap u64 (↑(BitVec.toNat (BitVec.ofInt 64 (s:Int)|||BitVec.ofInt 64 (↑(2^(O.l.getD k 0).toNat):Int))):Int)),ref 0 0,ref 1 0,ref 2 0,ref 3 0,ref 4 0] u1 g (ret (tup 0 (nth []))) u1 g)/\Q AEx.normal (St.mk [] u1 g))/\(decide (u3<u2)=false->Wp Tryd.prog R 47 6 Rd.top (af Tryd.prog 78) [0,1,1,1,1] (aq Tryd.prog R 47 6 Rd.top (af Tryd.prog 78) Q [Kont.blk 0]) (St.mk [(0,int i64 u3),(1,int u64 (s:Int)),(2,ref 0 0),(4,ref 2 0),(5,ref 3 0),(6,ref 4 0),(14,AV.bool (decide (u3<u2)))] u1 g)))) ((m:Int)==(most:Int))) ((k:Int))) ((O.l.length:Int))) ([cells false 1 fun (x:Nat)=>ow true 5 m 1,cells false 1 fun (x:Nat)=>int i64 (most:Int),cells false 1 fun (x:Nat)=>fz O.2 1 (O.l.length) fun (i x:Nat)=>ab O.l i,cells false 1 fun (x:Nat)=>fn 78 0 (nth []) 5 (nth [ref 0 0,ref 1 0,ref 2 0,ref 3 0,ref 4 0]),cells false 2 (nth [int i64 p.atoms,ae p.rules]),cells false (m*1) fun (a:Nat)=>fz Fz.auto 1 ((ao (L.getD a 0)).l.length) fun (i x:Nat)=>ab (ao (L.getD a 0)).l i])) (fun _=>by kernel_rfl) ⟨by omega,by omega,fun hcc=>(nomatch (hz.symm.trans hcc)),fun _=>⟨by omega,fun _=>⟨by omega,by omega,⟨rfl,(i1 _ _)⟩,by kernel_rfl,by omega,by omega,by omega,by omega,by omega,(fun _ _=>⟨rfl,(eJ _ _ (by omega) _ _)⟩),⟨rfl,(i2 _ _)⟩,?_⟩,fun hcc=>(nomatch (hb.symm.trans hcc))⟩⟩
   refine(ax (bj _ _ rfl trivial rfl rfl rfl) (Le.refl _))
 ·intro R _ s m m' L L' g hs hL hmL hmm h hm' hne
  rw[e0] at h
  have h0:0<m:=by rw[hmL];exact List.length_pos_iff.2 hL
  have hf:¬m=most:=fun e=>by
   rw[if_pos (by omega)] at h
   subst h
   omega
  have hz:((m:Int)==(most:Int))=false:=by rw[beq_eq_false_iff_ne];omega
  rw[if_neg (by omega)] at h
  obtain⟨t,ht⟩:∃t,s|||2^(O.l.getD k 0).toNat=t:=⟨_,rfl⟩
  have ht24:t<2^24:=by rw[<-ht];exact hor24 s hs
  have hoS:=(hor s hs).trans (congrArg (fun n:Nat=>(n:Int)) ht)
  rw[ht] at h
  have hlen:=eM (p:=p) (most:=most) (r:=r) (s:=s) (out:=L) (by omega)
  obtain⟨L1,hL1⟩:∃L1,stF p most r s L=L1:=⟨_,rfl⟩
  obtain⟨m1,hm1⟩:∃m1,m1=L1.length:=⟨_,rfl⟩
  rw[hL1] at h hlen
  have hlen2:=eM (p:=p) (most:=most) (r:=r) (s:=t) (out:=L1) hlen.2.1
  rw[h] at hlen2
  have h01:0<m1:=by omega
  have h0':0<m':=by omega
  have hmm1:m1<=most:=by omega
  have hmm':m'<=most:=by omega
  have hL1n:L1≠[]:=List.length_pos_iff.1 (by omega)
  by_cases e1:m=m1
  ·have hLL:L1=L:=hlen.2.2 (by omega)
   subst hLL
   have i1:=fun (R:Res) [Tab LT R] (g:R.σ)=>ih.on R s m L1 g hs hL hmL hmm hL1
   have i2:∀(R:Res) [Tab LT R] (g:R.σ),Does Tryd.prog R 78 [.int .i64 ((k:Int)+1),.int .u64 (IntKind.u64.wrap ((BitVec.ofInt 64 (s:Int)|||BitVec.ofInt 64 ((2^(O.l.getD k 0).toNat:Nat):Int)).toNat:Int)),.ref 0 0,.ref 1 0,.ref 2 0,.ref 3 0,.ref 4 0] [.cells false 1 (fun _=>.ow true 5 m 1),.cells false 1 (fun _=>.int .i64 most),.cells false 1 (fun _=>ap O),.cells false 1 (fun _=>.fn 78 0 (nth []) 5 (nth [.ref 0 0,.ref 1 0,.ref 2 0,.ref 3 0,.ref 4 0])),.cells false 2 (nth [.int .i64 p.atoms,ae p.rules]),.cells false (m*1) (aW L1)] g (.ret (.tup 0 (nth []))) [.cells false 1 (fun _=>.ow true 6 m' 1),.cells false 1 (fun _=>.int .i64 most),.cells false 1 (fun _=>ap O),.cells false 1 (fun _=>.fn 78 0 (nth []) 5 (nth [.ref 0 0,.ref 1 0,.ref 2 0,.ref 3 0,.ref 4 0])),.cells false 2 (nth [.int .i64 p.atoms,ae p.rules]),.dead,.cells false (m'*1) (aW L')] g:=fun R _ g=>by rw[hoS];exact ih.ow R t m m' L1 L' g ht24 hL hmL hmm h hm' hne
   refine az (nt:=47) (rs:=[]) (k0:=6) (by kernel_rfl) (by kernel_rfl) (by kernel_rfl) rfl ?_
   refine vcQ [[0,1,0],[0,1,1,1,1]] (lkL [(0,[0,1,2,4,5,6,9]),(1,[0,1,2,4,5,6,14]),(2,[0,1,4,5])]) (lkL [(2,[(4,ROrc.call (tup 0 (nth [])) [cells false 1 fun (x:Nat)=>ow true 5 m 1,cells false 1 fun (x:Nat)=>int i64 (most:Int),cells false 1 fun (x:Nat)=>ap O,cells false 1 fun (x:Nat)=>fn 78 0 (nth []) 5 (nth [ref 0 0,ref 1 0,ref 2 0,ref 3 0,ref 4 0]),cells false 2 (nth [int i64 p.atoms,ae p.rules]),cells false (m*1) (aW L1)] g)]),(3,[(8,ROrc.pcall (int u64 (↑(2^(O.l.getD k 0).toNat):Int))),(10,ROrc.callN (tup 0 (nth [])) [(0,cells false 1 fun (x:Nat)=>ow true 6 m' 1),(2,cells false 1 fun (x:Nat)=>ap O),(5,dead)] [cells false (m'*1) (aW L')] g)])]) (fun Q=>(fun (u1:List AObj)=>(fun (u2:List AObj)=>(fun (u3:Int)=>(fun (u4:Int)=>(fun (u5:Bool)=>1<=1/\1<=1/\(u5=true->Wp Tryd.prog R 47 6 Rd.top (af Tryd.prog 78) [0,1,0] (aq Tryd.prog R 47 6 Rd.top (af Tryd.prog 78) Q [Kont.blk 0]) (St.mk [(0,int i64 u4),(1,int u64 (s:Int)),(2,ref 0 0),(4,ref 2 0),(5,ref 3 0),(6,ref 4 0),(9,AV.bool u5)] u1 g))/\(u5=false->1<=1/\(decide (u4<u3)=true->1<=1/\(-9223372036854775808<=u4+1/\u4+1<=9223372036854775807)/\(true=true/\Does Tryd.prog R 78 [int i64 (u4+1),int u64 (s:Int),ref 0 0,ref 1 0,ref 2 0,ref 3 0,ref 4 0] u1 g (ret (tup 0 (nth []))) u1 g)/\Tables.follows Tryd.prog.toTables Departure.mixedOrders=true/\1<=1/\(-9223372036854775808<=u4+1/\u4+1<=9223372036854775807)/\1<=1/\(0<=u4/\u4<u3)/\1<=1/\(∀(hp:List AObj) (g:R.σ),true=true/\Does Tryd.prog R 79 [ab O.l k] hp g (ret (int u64 (↑(2^(O.l.getD k 0).toNat):Int))) hp g)/\(true=true/\Does Tryd.prog R 78 [int i64 (u4+1),int u64 (IntKind.wrap u64 (↑(BitVec.toNat (BitVec.ofInt 64 (s:Int)|||BitVec.ofInt 64 (↑(2^(O.l.getD k 0).toNat):Int))):Int)),ref 0 0,ref 1 0,ref 2 0,ref 3 0,ref 4 0] u1 g (ret (tup 0 (nth []))) u2 g)/\Q AEx.normal (St.mk [] u2 g))/\(decide (u4<u3)=false->Wp Tryd.prog R 47 6 Rd.top (af Tryd.prog 78) [0,1,1,1,1] (aq Tryd.prog R 47 6 Rd.top (af Tryd.prog 78) Q [Kont.blk 0]) (St.mk [(0,int i64 u4),(1,int u64 (s:Int)),(2,ref 0 0),(4,ref 2 0),(5,ref 3 0),(6,ref 4 0),(14,AV.bool (decide (u4<u3)))] u1 g)))) ((m:Int)==(most:Int))) ((k:Int))) ((O.l.length:Int))) ([cells false 1 fun (x:Nat)=>ow true 6 m' 1,cells false 1 fun (x:Nat)=>int i64 (most:Int),cells false 1 fun (x:Nat)=>fz O.2 1 (O.l.length) fun (i x:Nat)=>ab O.l i,cells false 1 fun (x:Nat)=>fn 78 0 (nth []) 5 (nth [ref 0 0,ref 1 0,ref 2 0,ref 3 0,ref 4 0]),cells false 2 (nth [int i64 p.atoms,ae p.rules]),dead,cells false (m'*1) fun (a:Nat)=>fz Fz.auto 1 ((ao (L'.getD a 0)).l.length) fun (i x:Nat)=>ab (ao (L'.getD a 0)).l i])) ([cells false 1 fun (x:Nat)=>ow true 5 m 1,cells false 1 fun (x:Nat)=>int i64 (most:Int),cells false 1 fun (x:Nat)=>fz O.2 1 (O.l.length) fun (i x:Nat)=>ab O.l i,cells false 1 fun (x:Nat)=>fn 78 0 (nth []) 5 (nth [ref 0 0,ref 1 0,ref 2 0,ref 3 0,ref 4 0]),cells false 2 (nth [int i64 p.atoms,ae p.rules]),cells false (m*1) fun (a:Nat)=>fz Fz.auto 1 ((ao (L1.getD a 0)).l.length) fun (i x:Nat)=>ab (ao (L1.getD a 0)).l i])) (fun _=>by kernel_rfl) ⟨by omega,by omega,fun hcc=>(nomatch (hz.symm.trans hcc)),fun _=>⟨by omega,fun _=>⟨by omega,by omega,⟨rfl,(i1 _ _)⟩,by kernel_rfl,by omega,by omega,by omega,by omega,by omega,(fun _ _=>⟨rfl,(eJ _ _ (by omega) _ _)⟩),⟨rfl,(i2 _ _)⟩,?_⟩,fun hcc=>(nomatch (hb.symm.trans hcc))⟩⟩
   refine(ax (bj _ _ rfl trivial rfl rfl rfl) (Le.refl _))
  ·have i1:=fun (R:Res) [Tab LT R] (g:R.σ)=>ih.ow R s m m1 L L1 g hs hL hmL hmm hL1 hm1 e1
   by_cases e2:m1=m'
   ·have hLL:L'=L1:=hlen2.2.2 (by omega)
    subst hLL
    subst e2
    have i2:∀(R:Res) [Tab LT R] (g:R.σ),Does Tryd.prog R 78 [.int .i64 ((k:Int)+1),.int .u64 (IntKind.u64.wrap ((BitVec.ofInt 64 (s:Int)|||BitVec.ofInt 64 ((2^(O.l.getD k 0).toNat:Nat):Int)).toNat:Int)),.ref 0 0,.ref 1 0,.ref 2 0,.ref 3 0,.ref 4 0] [.cells false 1 (fun _=>.ow true 5 m1 1),.cells false 1 (fun _=>.int .i64 most),.cells false 1 (fun _=>ap O),.cells false 1 (fun _=>.fn 78 0 (nth []) 5 (nth [.ref 0 0,.ref 1 0,.ref 2 0,.ref 3 0,.ref 4 0])),.cells false 2 (nth [.int .i64 p.atoms,ae p.rules]),.cells false (m1*1) (aW L')] g (.ret (.tup 0 (nth []))) [.cells false 1 (fun _=>.ow true 5 m1 1),.cells false 1 (fun _=>.int .i64 most),.cells false 1 (fun _=>ap O),.cells false 1 (fun _=>.fn 78 0 (nth []) 5 (nth [.ref 0 0,.ref 1 0,.ref 2 0,.ref 3 0,.ref 4 0])),.cells false 2 (nth [.int .i64 p.atoms,ae p.rules]),.cells false (m1*1) (aW L')] g:=fun R _ g=>by rw[hoS];exact ih.on R t m1 L' g ht24 hL1n hm1 hmm1 h
    refine az (nt:=47) (rs:=[]) (k0:=6) (by kernel_rfl) (by kernel_rfl) (by kernel_rfl) rfl ?_
    refine vcQ [[0,1,0],[0,1,1,1,1]] (lkL [(0,[0,1,2,4,5,6,9]),(1,[0,1,2,4,5,6,14]),(2,[0,1,4,5])]) (lkL [(2,[(4,ROrc.call (tup 0 (nth [])) [cells false 1 fun (x:Nat)=>ow true 6 m1 1,cells false 1 fun (x:Nat)=>int i64 (most:Int),cells false 1 fun (x:Nat)=>ap O,cells false 1 fun (x:Nat)=>fn 78 0 (nth []) 5 (nth [ref 0 0,ref 1 0,ref 2 0,ref 3 0,ref 4 0]),cells false 2 (nth [int i64 p.atoms,ae p.rules]),dead,cells false (m1*1) (aW L')] g)]),(3,[(8,ROrc.pcall (int u64 (↑(2^(O.l.getD k 0).toNat):Int))),(10,ROrc.kcall (tup 0 (nth [])))])]) (fun Q=>(fun (u1:List AObj)=>(fun (u2:List AObj)=>(fun (u3:Int)=>(fun (u4:Int)=>(fun (u5:Bool)=>1<=1/\1<=1/\(u5=true->Wp Tryd.prog R 47 6 Rd.top (af Tryd.prog 78) [0,1,0] (aq Tryd.prog R 47 6 Rd.top (af Tryd.prog 78) Q [Kont.blk 0]) (St.mk [(0,int i64 u4),(1,int u64 (s:Int)),(2,ref 0 0),(4,ref 2 0),(5,ref 3 0),(6,ref 4 0),(9,AV.bool u5)] u2 g))/\(u5=false->1<=1/\(decide (u4<u3)=true->1<=1/\(-9223372036854775808<=u4+1/\u4+1<=9223372036854775807)/\(true=true/\Does Tryd.prog R 78 [int i64 (u4+1),int u64 (s:Int),ref 0 0,ref 1 0,ref 2 0,ref 3 0,ref 4 0] u2 g (ret (tup 0 (nth []))) u1 g)/\Tables.follows Tryd.prog.toTables Departure.mixedOrders=true/\1<=1/\(-9223372036854775808<=u4+1/\u4+1<=9223372036854775807)/\1<=1/\(0<=u4/\u4<u3)/\1<=1/\(∀(hp:List AObj) (g:R.σ),true=true/\Does Tryd.prog R 79 [ab O.l k] hp g (ret (int u64 (↑(2^(O.l.getD k 0).toNat):Int))) hp g)/\(true=true/\Does Tryd.prog R 78 [int i64 (u4+1),int u64 (IntKind.wrap u64 (↑(BitVec.toNat (BitVec.ofInt 64 (s:Int)|||BitVec.ofInt 64 (↑(2^(O.l.getD k 0).toNat):Int))):Int)),ref 0 0,ref 1 0,ref 2 0,ref 3 0,ref 4 0] u1 g (ret (tup 0 (nth []))) u1 g)/\Q AEx.normal (St.mk [] u1 g))/\(decide (u4<u3)=false->Wp Tryd.prog R 47 6 Rd.top (af Tryd.prog 78) [0,1,1,1,1] (aq Tryd.prog R 47 6 Rd.top (af Tryd.prog 78) Q [Kont.blk 0]) (St.mk [(0,int i64 u4),(1,int u64 (s:Int)),(2,ref 0 0),(4,ref 2 0),(5,ref 3 0),(6,ref 4 0),(14,AV.bool (decide (u4<u3)))] u2 g)))) ((m:Int)==(most:Int))) ((k:Int))) ((O.l.length:Int))) ([cells false 1 fun (x:Nat)=>ow true 5 m 1,cells false 1 fun (x:Nat)=>int i64 (most:Int),cells false 1 fun (x:Nat)=>fz O.2 1 (O.l.length) fun (i x:Nat)=>ab O.l i,cells false 1 fun (x:Nat)=>fn 78 0 (nth []) 5 (nth [ref 0 0,ref 1 0,ref 2 0,ref 3 0,ref 4 0]),cells false 2 (nth [int i64 p.atoms,ae p.rules]),cells false (m*1) fun (a:Nat)=>fz Fz.auto 1 ((ao (L.getD a 0)).l.length) fun (i x:Nat)=>ab (ao (L.getD a 0)).l i])) ([cells false 1 fun (x:Nat)=>ow true 6 m1 1,cells false 1 fun (x:Nat)=>int i64 (most:Int),cells false 1 fun (x:Nat)=>fz O.2 1 (O.l.length) fun (i x:Nat)=>ab O.l i,cells false 1 fun (x:Nat)=>fn 78 0 (nth []) 5 (nth [ref 0 0,ref 1 0,ref 2 0,ref 3 0,ref 4 0]),cells false 2 (nth [int i64 p.atoms,ae p.rules]),dead,cells false (m1*1) fun (a:Nat)=>fz Fz.auto 1 ((ao (L'.getD a 0)).l.length) fun (i x:Nat)=>ab (ao (L'.getD a 0)).l i])) (fun _=>by kernel_rfl) ⟨by omega,by omega,fun hcc=>(nomatch (hz.symm.trans hcc)),fun _=>⟨by omega,fun _=>⟨by omega,by omega,⟨rfl,(i1 _ _)⟩,by kernel_rfl,by omega,by omega,by omega,by omega,by omega,(fun _ _=>⟨rfl,(eJ _ _ (by omega) _ _)⟩),⟨rfl,(bp (T:=LT) inferInstance [0,1,2,3,4,6] 7 (fun R _ g=>i2 R g) rfl rfl rfl (by exact⟨⟨rfl,Nat.le_refl _,fun j hj=>match j,hj with|0,_=>(Le.refl _) ⟩,⟨rfl,Nat.le_refl _,fun j hj=>match j,hj with|0,_=>(Le.refl _) ⟩,⟨rfl,Nat.le_refl _,fun j hj=>match j,hj with|0,_=>(Le.refl _) ⟩,⟨rfl,Nat.le_refl _,fun j hj=>match j,hj with|0,_=>(Le.fn (fun i hi=>absurd hi (by omega)) (fun i hi=>match i,hi with|0,_=>(Le.refl _)|1,_=>(Le.refl _)|2,_=>(Le.refl _)|3,_=>(Le.refl _)|4,_=>(Le.refl _) )) ⟩,⟨rfl,Nat.le_refl _,fun j hj=>match j,hj with|0,_=>(Le.refl _)|1,_=>(Le.refl _) ⟩,⟨rfl,Nat.le_refl _,fun j hj=>(by first|exact au (by first|exact trivial|apply gZ)|exact Le.of_eq (jT rfl).symm)⟩,trivial⟩) (by exact⟨by omega,by omega,by omega,by omega,by omega,by omega,trivial⟩) (by exact⟨au (by exact trivial),au (by exact trivial),Le.refl _,Le.refl _,Le.refl _,Le.refl _,Le.refl _,trivial⟩) (by exact aw (by exact trivial)) (by exact⟨⟨rfl,Nat.le_refl _,fun j hj=>match j,hj with|0,_=>(Le.refl _) ⟩,⟨rfl,Nat.le_refl _,fun j hj=>match j,hj with|0,_=>(Le.refl _) ⟩,⟨rfl,Nat.le_refl _,fun j hj=>match j,hj with|0,_=>(Le.refl _) ⟩,⟨rfl,Nat.le_refl _,fun j hj=>match j,hj with|0,_=>(Le.fn (fun i hi=>absurd hi (by omega)) (fun i hi=>match i,hi with|0,_=>(Le.refl _)|1,_=>(Le.refl _)|2,_=>(Le.refl _)|3,_=>(Le.refl _)|4,_=>(Le.refl _) )) ⟩,⟨rfl,Nat.le_refl _,fun j hj=>match j,hj with|0,_=>(Le.refl _)|1,_=>(Le.refl _) ⟩,trivial,⟨rfl,Nat.le_refl _,fun j hj=>(by first|exact aw (by first|exact trivial|apply gZ)|exact Le.of_eq (jT rfl))⟩,trivial⟩))⟩,?_⟩,fun hcc=>(nomatch (hb.symm.trans hcc))⟩⟩
    refine(ax (bj _ _ rfl trivial rfl rfl rfl) (Le.refl _))
   ·have i2:∀(R:Res) [Tab LT R] (g:R.σ),Does Tryd.prog R 78 [.int .i64 ((k:Int)+1),.int .u64 (IntKind.u64.wrap ((BitVec.ofInt 64 (s:Int)|||BitVec.ofInt 64 ((2^(O.l.getD k 0).toNat:Nat):Int)).toNat:Int)),.ref 0 0,.ref 1 0,.ref 2 0,.ref 3 0,.ref 4 0] [.cells false 1 (fun _=>.ow true 5 m1 1),.cells false 1 (fun _=>.int .i64 most),.cells false 1 (fun _=>ap O),.cells false 1 (fun _=>.fn 78 0 (nth []) 5 (nth [.ref 0 0,.ref 1 0,.ref 2 0,.ref 3 0,.ref 4 0])),.cells false 2 (nth [.int .i64 p.atoms,ae p.rules]),.cells false (m1*1) (aW L1)] g (.ret (.tup 0 (nth []))) [.cells false 1 (fun _=>.ow true 6 m' 1),.cells false 1 (fun _=>.int .i64 most),.cells false 1 (fun _=>ap O),.cells false 1 (fun _=>.fn 78 0 (nth []) 5 (nth [.ref 0 0,.ref 1 0,.ref 2 0,.ref 3 0,.ref 4 0])),.cells false 2 (nth [.int .i64 p.atoms,ae p.rules]),.dead,.cells false (m'*1) (aW L')] g:=fun R _ g=>by rw[hoS];exact ih.ow R t m1 m' L1 L' g ht24 hL1n hm1 hmm1 h hm' e2
    refine az (nt:=47) (rs:=[]) (k0:=6) (by kernel_rfl) (by kernel_rfl) (by kernel_rfl) rfl ?_
    refine vcQ [[0,1,0],[0,1,1,1,1]] (lkL [(0,[0,1,2,4,5,6,9]),(1,[0,1,2,4,5,6,14]),(2,[0,1,4,5])]) (lkL [(2,[(4,ROrc.call (tup 0 (nth [])) [cells false 1 fun (x:Nat)=>ow true 6 m1 1,cells false 1 fun (x:Nat)=>int i64 (most:Int),cells false 1 fun (x:Nat)=>ap O,cells false 1 fun (x:Nat)=>fn 78 0 (nth []) 5 (nth [ref 0 0,ref 1 0,ref 2 0,ref 3 0,ref 4 0]),cells false 2 (nth [int i64 p.atoms,ae p.rules]),dead,cells false (m1*1) (aW L1)] g)]),(3,[(8,ROrc.pcall (int u64 (↑(2^(O.l.getD k 0).toNat):Int))),(10,ROrc.callN (tup 0 (nth [])) [(0,cells false 1 fun (j:Nat)=>ow true 7 m' 1),(6,dead)] [cells false (m'*1) (aW L')] g)])]) (fun Q=>(fun (u1:List AObj)=>(fun (u2:List AObj)=>(fun (u3:List AObj)=>(fun (u4:Int)=>(fun (u5:Int)=>(fun (u6:Bool)=>1<=1/\1<=1/\(u6=true->Wp Tryd.prog R 47 6 Rd.top (af Tryd.prog 78) [0,1,0] (aq Tryd.prog R 47 6 Rd.top (af Tryd.prog 78) Q [Kont.blk 0]) (St.mk [(0,int i64 u5),(1,int u64 (s:Int)),(2,ref 0 0),(4,ref 2 0),(5,ref 3 0),(6,ref 4 0),(9,AV.bool u6)] u1 g))/\(u6=false->1<=1/\(decide (u5<u4)=true->1<=1/\(-9223372036854775808<=u5+1/\u5+1<=9223372036854775807)/\(true=true/\Does Tryd.prog R 78 [int i64 (u5+1),int u64 (s:Int),ref 0 0,ref 1 0,ref 2 0,ref 3 0,ref 4 0] u1 g (ret (tup 0 (nth []))) u3 g)/\Tables.follows Tryd.prog.toTables Departure.mixedOrders=true/\1<=1/\(-9223372036854775808<=u5+1/\u5+1<=9223372036854775807)/\1<=1/\(0<=u5/\u5<u4)/\1<=1/\(∀(hp:List AObj) (g:R.σ),true=true/\Does Tryd.prog R 79 [ab O.l k] hp g (ret (int u64 (↑(2^(O.l.getD k 0).toNat):Int))) hp g)/\(true=true/\Does Tryd.prog R 78 [int i64 (u5+1),int u64 (IntKind.wrap u64 (↑(BitVec.toNat (BitVec.ofInt 64 (s:Int)|||BitVec.ofInt 64 (↑(2^(O.l.getD k 0).toNat):Int))):Int)),ref 0 0,ref 1 0,ref 2 0,ref 3 0,ref 4 0] u3 g (ret (tup 0 (nth []))) u2 g)/\Q AEx.normal (St.mk [] u2 g))/\(decide (u5<u4)=false->Wp Tryd.prog R 47 6 Rd.top (af Tryd.prog 78) [0,1,1,1,1] (aq Tryd.prog R 47 6 Rd.top (af Tryd.prog 78) Q [Kont.blk 0]) (St.mk [(0,int i64 u5),(1,int u64 (s:Int)),(2,ref 0 0),(4,ref 2 0),(5,ref 3 0),(6,ref 4 0),(14,AV.bool (decide (u5<u4)))] u1 g)))) ((m:Int)==(most:Int))) ((k:Int))) ((O.l.length:Int))) ([cells false 1 fun (x:Nat)=>ow true 6 m1 1,cells false 1 fun (x:Nat)=>int i64 (most:Int),cells false 1 fun (x:Nat)=>fz O.2 1 (O.l.length) fun (i x:Nat)=>ab O.l i,cells false 1 fun (x:Nat)=>fn 78 0 (nth []) 5 (nth [ref 0 0,ref 1 0,ref 2 0,ref 3 0,ref 4 0]),cells false 2 (nth [int i64 p.atoms,ae p.rules]),dead,cells false (m1*1) fun (a:Nat)=>fz Fz.auto 1 ((ao (L1.getD a 0)).l.length) fun (i x:Nat)=>ab (ao (L1.getD a 0)).l i])) ([cells false 1 fun (j:Nat)=>ow true 7 m' 1,cells false 1 fun (x:Nat)=>int i64 (most:Int),cells false 1 fun (x:Nat)=>fz O.2 1 (O.l.length) fun (i x:Nat)=>ab O.l i,cells false 1 fun (x:Nat)=>fn 78 0 (nth []) 5 (nth [ref 0 0,ref 1 0,ref 2 0,ref 3 0,ref 4 0]),cells false 2 (nth [int i64 p.atoms,ae p.rules]),dead,dead,cells false (m'*1) fun (a:Nat)=>fz Fz.auto 1 ((ao (L'.getD a 0)).l.length) fun (i x:Nat)=>ab (ao (L'.getD a 0)).l i])) ([cells false 1 fun (x:Nat)=>ow true 5 m 1,cells false 1 fun (x:Nat)=>int i64 (most:Int),cells false 1 fun (x:Nat)=>fz O.2 1 (O.l.length) fun (i x:Nat)=>ab O.l i,cells false 1 fun (x:Nat)=>fn 78 0 (nth []) 5 (nth [ref 0 0,ref 1 0,ref 2 0,ref 3 0,ref 4 0]),cells false 2 (nth [int i64 p.atoms,ae p.rules]),cells false (m*1) fun (a:Nat)=>fz Fz.auto 1 ((ao (L.getD a 0)).l.length) fun (i x:Nat)=>ab (ao (L.getD a 0)).l i])) (fun _=>by kernel_rfl) ⟨by omega,by omega,fun hcc=>(nomatch (hz.symm.trans hcc)),fun _=>⟨by omega,fun _=>⟨by omega,by omega,⟨rfl,(i1 _ _)⟩,by kernel_rfl,by omega,by omega,by omega,by omega,by omega,(fun _ _=>⟨rfl,(eJ _ _ (by omega) _ _)⟩),⟨rfl,(bp (T:=LT) inferInstance [0,1,2,3,4,6] 7 (fun R _ g=>i2 R g) rfl rfl rfl (by exact⟨⟨rfl,Nat.le_refl _,fun j hj=>match j,hj with|0,_=>(Le.refl _) ⟩,⟨rfl,Nat.le_refl _,fun j hj=>match j,hj with|0,_=>(Le.refl _) ⟩,⟨rfl,Nat.le_refl _,fun j hj=>match j,hj with|0,_=>(Le.refl _) ⟩,⟨rfl,Nat.le_refl _,fun j hj=>match j,hj with|0,_=>(Le.fn (fun i hi=>absurd hi (by omega)) (fun i hi=>match i,hi with|0,_=>(Le.refl _)|1,_=>(Le.refl _)|2,_=>(Le.refl _)|3,_=>(Le.refl _)|4,_=>(Le.refl _) )) ⟩,⟨rfl,Nat.le_refl _,fun j hj=>match j,hj with|0,_=>(Le.refl _)|1,_=>(Le.refl _) ⟩,⟨rfl,Nat.le_refl _,fun j hj=>(by first|exact au (by first|exact trivial|apply gZ)|exact Le.of_eq (jT rfl).symm)⟩,trivial⟩) (by exact⟨by omega,by omega,by omega,by omega,by omega,by omega,trivial⟩) (by exact⟨au (by exact trivial),au (by exact trivial),Le.refl _,Le.refl _,Le.refl _,Le.refl _,Le.refl _,trivial⟩) (by exact aw (by exact trivial)) (by exact⟨LeO.rflc,⟨rfl,Nat.le_refl _,fun j hj=>match j,hj with|0,_=>(Le.refl _) ⟩,⟨rfl,Nat.le_refl _,fun j hj=>match j,hj with|0,_=>(Le.refl _) ⟩,⟨rfl,Nat.le_refl _,fun j hj=>match j,hj with|0,_=>(Le.fn (fun i hi=>absurd hi (by omega)) (fun i hi=>match i,hi with|0,_=>(Le.refl _)|1,_=>(Le.refl _)|2,_=>(Le.refl _)|3,_=>(Le.refl _)|4,_=>(Le.refl _) )) ⟩,⟨rfl,Nat.le_refl _,fun j hj=>match j,hj with|0,_=>(Le.refl _)|1,_=>(Le.refl _) ⟩,trivial,trivial,⟨rfl,Nat.le_refl _,fun j hj=>(by first|exact aw (by first|exact trivial|apply gZ)|exact Le.of_eq (jT rfl))⟩,trivial⟩))⟩,?_⟩,fun hcc=>(nomatch (hb.symm.trans hcc))⟩⟩
    refine lJ (.tup 0 (nth [])) _ rfl trivial ?_
    refine a9 [0,1,2,3,4,5,7] 8 ?_ ?_ ?_ ?_ ?_ ?_ ?_
    ·rfl
    ·rfl
    ·rfl
    ·rfl
    ·rfl
    ·exact⟨Le.refl _,trivial⟩
    ·exact⟨⟨rfl,Nat.le_refl _,fun j hj=>Le.refl _⟩,LeO.refl _,LeO.refl _,⟨rfl,Nat.le_refl _,fun j hj=>lK⟩,⟨rfl,Nat.le_refl _,fun j hj=>match j,hj with|0,_=>Le.refl _|1,_=>au (by exact trivial)⟩,trivial,⟨rfl,Nat.le_refl _,fun j hj=>Le.refl _⟩,trivial⟩
def d9 (p:Prg):Nat:=aK (am p).2 3 p.atoms.toNat
def g4 (p:Prg):Nat:=aK (am p).2 2 p.atoms.toNat
def stP (p:Prg)(most:Nat):List Nat:=stF p most (bC (d9 p)) (g4 p) []
theorem ox {p:Prg}{most:Nat}{O:KL Int}(hm:1<=most/\most<=100)(hO:O.l.length<=10)(hOa:∀a,a∈O.l->0<=a/\a<24)(hl:p.rules.l.length<1000000)(hr:∀r,r∈p.rules.l->aP r):∀(j k:Nat),k+j=O.l.length->FromC p most O (O.l.drop k) (k:Int)
 |0,k,h=>by
  have hk:k=O.l.length:=by omega
  subst hk
  rw[List.drop_length]
  exact zi hm hO hl hr
 |j+1,k,h=>by
  rw[gG O.l 0 (show k<O.l.length by omega)]
  exact zj hm hO (by omega) (hOa _ (bN O.l 0 (by omega))) (ox hm hO hOa hl hr j (k+1) (by omega))
theorem sM {s:Nat}:∀a,a∈(ao s).l->0<=a/\a<24:=by
 intro a ha
 obtain⟨b,hb,rfl⟩:=List.mem_map.1 (show a∈(aj s).map (fun (a:Nat)=>(a:Int)) from ha)
 have:=jB hb
 omega
theorem zk (R:Res)[Tab LT R](p:Prg)(most:Nat)(hb:aR p=true)(hm:1<=most/\most<=100)(hO:(bC (d9 p)).length<=10)(hN:stP p most=[])(g:R.σ):Does Tryd.prog R 27 [ay p,.int .i64 most] [] g (.ret (.tup 2 (nth [.fz .nil 0 0 (fun _ _=>.any),.int .i64 0]))) [] g:=by
 obtain⟨hl,hr,hp,hh,hx⟩:=ff hb
 have hs:em p:=iK hb
 have hp':1<=p.atoms/\p.atoms<=24:=hp
 have hc:(bif ((if aR p then(0:Int) else 2) != 0) then true else !decide (1<=(most:Int)/\(most:Int)<=100))=false:=by
  rw[hb,decide_eq_true (by omega)]
  rfl
 have hD:=fun (R:Res) [Tab LT R] (g:R.σ)=>nX R p hl hr hp hh g
 have hC:=fun (R:Res) [Tab LT R] (s:Nat) (hs:s<2^24) (g:R.σ)=>jJ R s hs g
 have hlt:aK (am p).2 3 p.atoms.toNat<2^24:=iI (by omega)
 have hS:=fun (R:Res) (g:R.σ)=>lI R (am p).2 p.atoms 3 (by omega) g
 have hS2:=fun (R:Res) (g:R.σ)=>lI R (am p).2 p.atoms 2 (by omega) g
 have hgt:decide ((10:Int)<((ao (aK (am p).2 3 p.atoms.toNat)).l.length:Int))=false:=decide_eq_false (by
  have hO:(ao (aK (am p).2 3 p.atoms.toNat)).l.length<=10:=hO
  omega)
 have hF0:=(ox (p:=p) (most:=most) (O:=ao (d9 p)) hm hO sM hl hr (ao (d9 p)).l.length 0 (by omega)).nn
 rw[List.drop_zero] at hF0
 have hF:=fun (R:Res) [Tab LT R] (g:R.σ)=>hF0 R (g4 p) g (iI (by omega)) hN
 unfold g4 d9 at hF
 clear hF0
 refine az (nt:=45) (rs:=[.tmp 4,.tmp 5]) (k0:=0) (by kernel_rfl) (by kernel_rfl) (by kernel_rfl) rfl ?_
 refine vcQ [[1,0,1,0],[1,1,1,1,0,1,0]] (lkL [(0,[2,3]),(1,[2,3,18]),(3,[2,3,7]),(4,[2,3,7,8]),(5,[2,3,7,8,34]),(7,[2,3,7,8,9]),(8,[2,3,7,8,9,10]),(9,[2,7,9,10]),(10,[9]),(11,[4,5])]) (lkL [(1,[(1,ROrc.pcall (int i64 (if aR p=true then 0 else 2))),(5,ROrc.pcall (AV.bool (decide (1<=(most:Int)/\(most:Int)<=100))))]),(3,[(1,ROrc.call (tup 2 (nth [fz Fz.auto 2 ((aA (am p).fst).l.length) fun (i:Nat)=>co ((aA (am p).fst).l.getD i default),ref 2 0])) [cells false 2 (nth [int i64 p.atoms,ae p.rules]),cells false 1 fun (a:Nat)=>int i64 (most:Int),cells false 27 (aQ (am p).snd)] g)]),(4,[(5,ROrc.lcall (int u64 (↑(aK (am p).snd 3 (p.atoms.toNat)):Int)) [2]),(6,ROrc.callN (fn 105 0 (nth []) 1 (nth [ref (List.length [cells false 2 (nth [int i64 p.atoms,ae p.rules]),cells false 1 fun (a:Nat)=>int i64 (most:Int),cells false 27 (aQ (am p).snd)]) 0])) [] [cells false 1 fun (x:Nat)=>int u64 (↑(aK (am p).snd 3 (p.atoms.toNat)):Int)] g),(7,ROrc.callS (fz Fz.auto 1 ((ao (aK (am p).snd 3 (p.atoms.toNat))).l.length) fun (i x:Nat)=>ab (ao (aK (am p).snd 3 (p.atoms.toNat))).l i) [(3,cells false 1 fun (j:Nat)=>any)] g),(9,ROrc.val (Orc.obj (nth [fz Fz.auto 1 ((ao (aK (am p).snd 3 (p.atoms.toNat))).l.length) fun (i x:Nat)=>ab (ao (aK (am p).snd 3 (p.atoms.toNat))).l i])))]),(9,[(1,ROrc.val (Orc.obj (nth [fn 78 0 (nth []) 5 (nth [ref 5 0,ref 1 0,ref 4 0,ref 6 0,ref 0 0])])))]),(10,[(6,ROrc.lcall (int u64 (↑(aK (am p).snd 2 (p.atoms.toNat)):Int)) [2]),(7,ROrc.kcall (tup 0 (nth [])))])]) (fun Q=>(fun (u1:List AObj)=>(fun (u2:Nat)=>(fun (u3:Int)=>(fun (u4:AObj)=>(fun (u5:AObj)=>(fun (u6:AV)=>(fun (u7:AObj)=>(fun (u8:Bool)=>(fun (u9:Int)=>(fun (u10:List AV)=>(fun (u11:AV)=>(fun (u12:List AObj)=>(fun (u13:Int)=>2<=2/\(∀(hp:List AObj) (g:R.σ),true=true/\Does Tryd.prog R 16 [ay p] hp g (ret (int i64 u13)) hp g)/\((!u13 != 0)=true->1<=1)/\((!u13 != 0)=true->∀(hp:List AObj) (g:R.σ),true=true/\Does Tryd.prog R 58 [int i64 u3,int i64 1,int i64 100] hp g (ret (AV.bool (decide (1<=u3/\u3<=100)))) hp g)/\(u8=true->Wp Tryd.prog R 45 0 Rd.top (af Tryd.prog 27) [1,0,1,0] (aq Tryd.prog R 45 0 Rd.top (af Tryd.prog 27) Q [Kont.seq [1,1]]) (St.mk [(2,ref 0 0),(3,ref 1 0),(18,AV.bool u8)] [u4,u5] g))/\(u8=false->2<=2/\(true=true/\Does Tryd.prog R 60 [ay p] [u4,u5] g (ret (tup 2 (nth [fz Fz.auto 2 ((aA (am p).fst).l.length) fun (i:Nat)=>co ((aA (am p).fst).l.getD i default),ref 2 0]))) [u4,u5,u7] g)/\Tables.follows Tryd.prog.toTables Departure.mixedOrders=true/\1<=2/\(∀(hp':List AObj) (g':R.σ),SameO [2] [u4,u5,u7] hp'->true=true/\Does Tryd.prog R 76 [ref 2 2,int i64 p.atoms,int i64 3] hp' g' (ret (int u64 (u2:Int))) hp' g')/\(true=true/\Does Tryd.prog R 77 [int u64 (u2:Int)] [u4,u5,u7] g (ret (fn 105 0 (nth []) 1 (nth [ref 3 0]))) u12 g)/\(true=true/\Does Tryd.prog R 75 [fn 105 0 (nth []) 1 (nth [ref 3 0])] u12 g (ret u6) [u4,u5,u7,cells false 1 fun (j:Nat)=>any] g)/\1<=1/\(∀(c:Nat),c<1->nth [u6] c=ah (fun (a:Nat)=>fz Fz.nil 0 0 fun _ _=>any) 0 1 (fun (x:Nat)=>u6) c)/\1<=1/\(decide (u9 > 10)=true->Wp Tryd.prog R 45 0 Rd.top (af Tryd.prog 27) [1,1,1,1,0,1,0] (aq Tryd.prog R 45 0 Rd.top (af Tryd.prog 27) Q [Kont.seq [1,1,1,1,1]]) (St.mk [(2,ref 0 0),(3,ref 1 0),(7,ref 2 0),(8,ref 4 0),(34,AV.bool (decide (u9 > 10)))] [u4,u5,u7,cells false 1 fun (j:Nat)=>any,cells false 1 (nth [u6])] g))/\(decide (u9 > 10)=false->1<=1/\(∀(c:Nat),c<1->nth [fn 78 0 (nth []) 5 (nth u10)] c=ah (fun (a:Nat)=>AV.nilf) 0 1 (fun (x:Nat)=>fn 78 0 (nth []) 5 (nth u10)) c)/\Tables.follows Tryd.prog.toTables Departure.mixedOrders=true/\1<=1/\1<=2/\(∀(hp':List AObj) (g':R.σ),SameO [2] u1 hp'->true=true/\Does Tryd.prog R 76 [ref 2 2,int i64 p.atoms,int i64 2] hp' g' (ret u11) hp' g')/\(true=true/\Does Tryd.prog R 78 (int i64 0::u11::u10) u1 g (ret (tup 0 (nth []))) u1 g)/\1<=1/\Q AEx.ret (St.mk [(4,fz Fz.nil 0 0 fun _ _=>any),(5,int i64 0)] u1 g)))) (if aR p=true then 0 else 2)) ([u4,u5,u7,cells false 1 fun (x:Nat)=>int u64 (u2:Int)])) (int u64 (↑(aK (am p).snd 2 (p.atoms.toNat)):Int))) ([ref 5 0,ref 1 0,ref 4 0,ref 6 0,ref 0 0])) ((↑((ao u2).l.length):Int))) (bif (if aR p=true then 0 else 2) != 0 then true else !decide (1<=u3/\u3<=100))) (cells false 27 (aQ (am p).snd))) (fz Fz.auto 1 ((ao u2).l.length) fun (i x:Nat)=>ab (ao u2).l i)) (cells false 1 fun (a:Nat)=>int i64 u3)) (cells false 2 (nth [int i64 p.atoms,ae p.rules]))) ((most:Int))) (aK (am p).snd 3 (p.atoms.toNat))) ([cells false 2 (nth [int i64 p.atoms,ae p.rules]),cells false 1 fun (a:Nat)=>int i64 (most:Int),cells false 27 (aQ (am p).snd),cells false 1 fun (j:Nat)=>any,cells false 1 (nth [fz Fz.auto 1 ((ao (aK (am p).snd 3 (p.atoms.toNat))).l.length) fun (i x:Nat)=>ab (ao (aK (am p).snd 3 (p.atoms.toNat))).l i]),cells false 1 fun (a:Nat)=>fz Fz.nil 0 0 fun _ _=>any,cells false 1 (nth [fn 78 0 (nth []) 5 (nth [ref 5 0,ref 1 0,ref 4 0,ref 6 0,ref 0 0])])])) (fun _=>by kernel_rfl) ⟨by omega,(fun _ _=>⟨rfl,(f9 _ _ _ _ (by omega))⟩),by omega,(fun hgd=>(fun _ _=>⟨rfl,(dZ _ _ _ _ _ _)⟩)),fun hcc=>(nomatch (hc.symm.trans hcc)),fun _=>⟨by omega,⟨rfl,(bp (T:=LT) inferInstance [] 2 (fun R _ g=>hD R g) rfl rfl rfl (by exact trivial) (by exact trivial) (by exact⟨au (by exact⟨⟨trivial,trivial⟩,trivial⟩),trivial⟩) (by exact(Le.tup (fun i hi=>match i,hi with|0,_=>(Le.refl _)|1,_=>(Le.refl _) ))) (by exact⟨LeO.rflc,LeO.rflc,⟨rfl,Nat.le_refl _,fun j hj=>(by first|exact aw (by first|exact trivial|apply jH)|exact Le.of_eq (dj rfl))⟩,trivial⟩))⟩,by kernel_rfl,by omega,?_,⟨rfl,(dG _ _ _ _)⟩,⟨rfl,(bp (T:=LT) inferInstance [3] 4 (fun R _ g=>hC R (aK (am p).snd 3 (p.atoms.toNat)) (by omega) g) rfl rfl rfl (by exact⟨⟨rfl,Nat.le_refl _,fun j hj=>match j,hj with|0,_=>(Le.refl _) ⟩,trivial⟩) (by exact⟨by omega,trivial⟩) (by exact⟨(Le.fn (fun i hi=>absurd hi (by omega)) (fun i hi=>match i,hi with|0,_=>(Le.refl _) )),trivial⟩) (by exact aw (by exact trivial)) (by exact⟨LeO.rflc,LeO.rflc,LeO.rflc,LeO.rflc,trivial⟩))⟩,by omega,(fun c hc=>match c,hc with|0,_=>(by kernel_rfl) ),by omega,fun hcc=>(nomatch (hgt.symm.trans hcc)),fun _=>⟨by omega,(fun c hc=>match c,hc with|0,_=>(by kernel_rfl) ),by kernel_rfl,by omega,by omega,?_,⟨rfl,(bp (T:=LT) inferInstance [5,1,4,6,0] 7 (fun R _ g=>hF R g) rfl rfl rfl (by exact⟨⟨rfl,Nat.le_refl _,fun j hj=>match j,hj with|0,_=>(Le.refl _) ⟩,⟨rfl,Nat.le_refl _,fun j hj=>match j,hj with|0,_=>(Le.refl _) ⟩,⟨rfl,Nat.le_refl _,fun j hj=>match j,hj with|0,_=>(Le.refl _) ⟩,⟨rfl,Nat.le_refl _,fun j hj=>match j,hj with|0,_=>(Le.fn (fun i hi=>absurd hi (by omega)) (fun i hi=>match i,hi with|0,_=>(Le.refl _)|1,_=>(Le.refl _)|2,_=>(Le.refl _)|3,_=>(Le.refl _)|4,_=>(Le.refl _) )) ⟩,⟨rfl,Nat.le_refl _,fun j hj=>match j,hj with|0,_=>(Le.refl _)|1,_=>(Le.refl _) ⟩,trivial⟩) (by exact⟨by omega,by omega,by omega,by omega,by omega,trivial⟩) (by exact⟨au (by exact trivial),au (by exact trivial),Le.refl _,Le.refl _,Le.refl _,Le.refl _,Le.refl _,trivial⟩) (by exact aw (by exact trivial)) (by exact⟨⟨rfl,Nat.le_refl _,fun j hj=>match j,hj with|0,_=>(Le.refl _)|1,_=>(Le.refl _) ⟩,⟨rfl,Nat.le_refl _,fun j hj=>match j,hj with|0,_=>(Le.refl _) ⟩,LeO.rflc,LeO.rflc,⟨rfl,Nat.le_refl _,fun j hj=>match j,hj with|0,_=>(Le.refl _) ⟩,⟨rfl,Nat.le_refl _,fun j hj=>match j,hj with|0,_=>(Le.refl _) ⟩,⟨rfl,Nat.le_refl _,fun j hj=>match j,hj with|0,_=>(Le.fn (fun i hi=>absurd hi (by omega)) (fun i hi=>match i,hi with|0,_=>(Le.refl _)|1,_=>(Le.refl _)|2,_=>(Le.refl _)|3,_=>(Le.refl _)|4,_=>(Le.refl _) )) ⟩,trivial⟩))⟩,by omega,?_⟩⟩⟩
 ·intro hp' g' hs'
  exact⟨rfl,jt [2] (fun R g=>hS R g) (by exact⟨rfl,trivial⟩) rfl (by exact fun n=>⟨LeO.cells (fun j hj=>(dj trivial).symm),trivial⟩) ⟨by omega,trivial⟩ (by exact fun n=>⟨Le.refl _,Le.refl _,Le.refl _,trivial⟩) rfl (by exact fun n=>Le.refl _) (by exact fun n=>⟨LeO.cells (fun j hj=>dj trivial),trivial⟩) hp' g' hs'⟩
 ·intro hp' g' hs'
  exact⟨rfl,jt [2] (fun R g=>hS2 R g) (by exact⟨rfl,trivial⟩) rfl (by exact fun n=>⟨LeO.cells (fun j hj=>(dj trivial).symm),trivial⟩) ⟨by omega,trivial⟩ (by exact fun n=>⟨Le.refl _,Le.refl _,Le.refl _,trivial⟩) rfl (by exact fun n=>Le.refl _) (by exact fun n=>⟨LeO.cells (fun j hj=>dj trivial),trivial⟩) hp' g' hs'⟩
 ·refine(ax (bR _ _ rfl trivial ⟨⟨trivial,trivial⟩,trivial⟩ rfl) (Le.refl _))
theorem zl (R:Res)[Tab LT R](p:Prg)(most:Nat)(hb:aR p=true)(hm:1<=most/\most<=100)(hO:(bC (d9 p)).length<=10)(hN:stP p most≠[])(g:R.σ):Does Tryd.prog R 27 [ay p,.int .i64 most] [] g (.ret (.tup 2 (nth [dv (stP p most).length (fun i=>ao ((stP p most).getD i 0)),.int .i64 0]))) [] g:=by
 obtain⟨hl,hr,hp,hh,hx⟩:=ff hb
 have hs:em p:=iK hb
 have hp':1<=p.atoms/\p.atoms<=24:=hp
 have hc:(bif ((if aR p then(0:Int) else 2) != 0) then true else !decide (1<=(most:Int)/\(most:Int)<=100))=false:=by
  rw[hb,decide_eq_true (by omega)]
  rfl
 have hD:=fun (R:Res) [Tab LT R] (g:R.σ)=>nX R p hl hr hp hh g
 have hC:=fun (R:Res) [Tab LT R] (s:Nat) (hs:s<2^24) (g:R.σ)=>jJ R s hs g
 have hlt:aK (am p).2 3 p.atoms.toNat<2^24:=iI (by omega)
 have hS:=fun (R:Res) (g:R.σ)=>lI R (am p).2 p.atoms 3 (by omega) g
 have hS2:=fun (R:Res) (g:R.σ)=>lI R (am p).2 p.atoms 2 (by omega) g
 have hgt:decide ((10:Int)<((ao (aK (am p).2 3 p.atoms.toNat)).l.length:Int))=false:=decide_eq_false (by
  have hO:(ao (aK (am p).2 3 p.atoms.toNat)).l.length<=10:=hO
  omega)
 obtain⟨L,hL⟩:∃L,stP p most=L:=⟨_,rfl⟩
 rw[hL] at hN ⊢
 obtain⟨m,hm0⟩:∃m,m=L.length:=⟨_,rfl⟩
 have hmm:m<=100:=by
  have:=(eM (p:=p) (most:=most) (r:=bC (d9 p)) (s:=g4 p) (out:=[]) (Nat.zero_le _)).2.1
  have hL':stF p most (bC (d9 p)) (g4 p) []=L:=hL
  rw[hL'] at this
  omega
 have hF0:=(ox (p:=p) (most:=most) (O:=ao (d9 p)) hm hO sM hl hr (ao (d9 p)).l.length 0 (by omega)).nw
 rw[List.drop_zero] at hF0
 have hF:=fun (R:Res) [Tab LT R] (g:R.σ)=>hF0 R (g4 p) m L g (iI (by omega)) hL hN hm0
 unfold g4 d9 at hF
 clear hF0
 refine az (nt:=45) (rs:=[.tmp 4,.tmp 5]) (k0:=0) (by kernel_rfl) (by kernel_rfl) (by kernel_rfl) rfl ?_
 refine vcQ [[1,0,1,0],[1,1,1,1,0,1,0]] (lkL [(0,[2,3]),(1,[2,3,18]),(3,[2,3,7]),(4,[2,3,7,8]),(5,[2,3,7,8,34]),(7,[2,3,7,8,9]),(8,[2,3,7,8,9,10]),(9,[2,7,9,10]),(10,[9]),(11,[4,5])]) (lkL [(1,[(1,ROrc.pcall (int i64 (if aR p=true then 0 else 2))),(5,ROrc.pcall (AV.bool (decide (1<=(most:Int)/\(most:Int)<=100))))]),(3,[(1,ROrc.call (tup 2 (nth [fz Fz.auto 2 ((aA (am p).fst).l.length) fun (i:Nat)=>co ((aA (am p).fst).l.getD i default),ref 2 0])) [cells false 2 (nth [int i64 p.atoms,ae p.rules]),cells false 1 fun (a:Nat)=>int i64 (most:Int),cells false 27 (aQ (am p).snd)] g)]),(4,[(5,ROrc.lcall (int u64 (↑(aK (am p).snd 3 (p.atoms.toNat)):Int)) [2]),(6,ROrc.callN (fn 105 0 (nth []) 1 (nth [ref (List.length [cells false 2 (nth [int i64 p.atoms,ae p.rules]),cells false 1 fun (a:Nat)=>int i64 (most:Int),cells false 27 (aQ (am p).snd)]) 0])) [] [cells false 1 fun (x:Nat)=>int u64 (↑(aK (am p).snd 3 (p.atoms.toNat)):Int)] g),(7,ROrc.callS (fz Fz.auto 1 ((ao (aK (am p).snd 3 (p.atoms.toNat))).l.length) fun (i x:Nat)=>ab (ao (aK (am p).snd 3 (p.atoms.toNat))).l i) [(3,cells false 1 fun (j:Nat)=>any)] g),(9,ROrc.val (Orc.obj (nth [fz Fz.auto 1 ((ao (aK (am p).snd 3 (p.atoms.toNat))).l.length) fun (i x:Nat)=>ab (ao (aK (am p).snd 3 (p.atoms.toNat))).l i])))]),(9,[(1,ROrc.val (Orc.obj (nth [fn 78 0 (nth []) 5 (nth [ref 5 0,ref 1 0,ref 4 0,ref 6 0,ref 0 0])])))]),(10,[(6,ROrc.lcall (int u64 (↑(aK (am p).snd 2 (p.atoms.toNat)):Int)) [2]),(7,ROrc.callN (tup 0 (nth [])) [(5,cells false 1 fun (j:Nat)=>ow true 7 m 1)] [cells false (m*1) (aW L)] g)])]) (fun Q=>(fun (u1:AV)=>(fun (u2:AObj)=>(fun (u3:AObj)=>(fun (u4:List AObj)=>(fun (u5:Int)=>(fun (u6:Int)=>(fun (u7:List AObj)=>(fun (u8:AObj)=>(fun (u9:Bool)=>(fun (u10:AV)=>(fun (u11:List AV)=>(fun (u12:AV)=>(fun (u13:Int)=>2<=2/\(∀(hp:List AObj) (g:R.σ),true=true/\Does Tryd.prog R 16 [ay p] hp g (ret (int i64 u13)) hp g)/\((!u13 != 0)=true->1<=1)/\((!u13 != 0)=true->∀(hp:List AObj) (g:R.σ),true=true/\Does Tryd.prog R 58 [int i64 u6,int i64 1,int i64 100] hp g (ret (AV.bool (decide (1<=u6/\u6<=100)))) hp g)/\(u9=true->Wp Tryd.prog R 45 0 Rd.top (af Tryd.prog 27) [1,0,1,0] (aq Tryd.prog R 45 0 Rd.top (af Tryd.prog 27) Q [Kont.seq [1,1]]) (St.mk [(2,ref 0 0),(3,ref 1 0),(18,AV.bool u9)] [u2,u3] g))/\(u9=false->2<=2/\(true=true/\Does Tryd.prog R 60 [ay p] [u2,u3] g (ret (tup 2 (nth [fz Fz.auto 2 ((aA (am p).fst).l.length) fun (i:Nat)=>co ((aA (am p).fst).l.getD i default),ref 2 0]))) [u2,u3,u8] g)/\Tables.follows Tryd.prog.toTables Departure.mixedOrders=true/\1<=2/\(∀(hp':List AObj) (g':R.σ),SameO [2] [u2,u3,u8] hp'->true=true/\Does Tryd.prog R 76 [ref 2 2,int i64 p.atoms,int i64 3] hp' g' (ret u10) hp' g')/\(true=true/\Does Tryd.prog R 77 [u10] [u2,u3,u8] g (ret (fn 105 0 (nth []) 1 (nth [ref 3 0]))) [u2,u3,u8,cells false 1 fun (x:Nat)=>u10] g)/\(true=true/\Does Tryd.prog R 75 [fn 105 0 (nth []) 1 (nth [ref 3 0])] [u2,u3,u8,cells false 1 fun (x:Nat)=>u10] g (ret u1) [u2,u3,u8,cells false 1 fun (j:Nat)=>any] g)/\1<=1/\(∀(c:Nat),c<1->nth [u1] c=ah (fun (a:Nat)=>fz Fz.nil 0 0 fun _ _=>any) 0 1 (fun (x:Nat)=>u1) c)/\1<=1/\(decide (u5 > 10)=true->Wp Tryd.prog R 45 0 Rd.top (af Tryd.prog 27) [1,1,1,1,0,1,0] (aq Tryd.prog R 45 0 Rd.top (af Tryd.prog 27) Q [Kont.seq [1,1,1,1,1]]) (St.mk [(2,ref 0 0),(3,ref 1 0),(7,ref 2 0),(8,ref 4 0),(34,AV.bool (decide (u5 > 10)))] [u2,u3,u8,cells false 1 fun (j:Nat)=>any,cells false 1 (nth [u1])] g))/\(decide (u5 > 10)=false->1<=1/\(∀(c:Nat),c<1->nth [fn 78 0 (nth []) 5 (nth u11)] c=ah (fun (a:Nat)=>AV.nilf) 0 1 (fun (x:Nat)=>fn 78 0 (nth []) 5 (nth u11)) c)/\Tables.follows Tryd.prog.toTables Departure.mixedOrders=true/\1<=1/\1<=2/\(∀(hp':List AObj) (g':R.σ),SameO [2] u7 hp'->true=true/\Does Tryd.prog R 76 [ref 2 2,int i64 p.atoms,int i64 2] hp' g' (ret u12) hp' g')/\(true=true/\Does Tryd.prog R 78 (int i64 0::u12::u11) u7 g (ret (tup 0 (nth []))) u4 g)/\1<=1/\Q AEx.ret (St.mk [(4,ow true 7 m 1),(5,int i64 0)] u4 g)))) (if aR p=true then 0 else 2)) (int u64 (↑(aK (am p).snd 2 (p.atoms.toNat)):Int))) ([ref 5 0,ref 1 0,ref 4 0,ref 6 0,ref 0 0])) (int u64 (↑(aK (am p).snd 3 (p.atoms.toNat)):Int))) (bif (if aR p=true then 0 else 2) != 0 then true else !decide (1<=u6/\u6<=100))) (cells false 27 (aQ (am p).snd))) ([u2,u3,cells false 27 (aQ (am p).snd),cells false 1 fun (j:Nat)=>any,cells false 1 (nth [u1]),cells false 1 fun (a:Nat)=>fz Fz.nil 0 0 fun _ _=>any,cells false 1 (nth [fn 78 0 (nth []) 5 (nth [ref 5 0,ref 1 0,ref 4 0,ref 6 0,ref 0 0])])])) ((most:Int))) ((↑((ao (aK (am p).snd 3 (p.atoms.toNat))).l.length):Int))) ([u2,u3,cells false 27 (aQ (am p).snd),cells false 1 fun (j:Nat)=>any,cells false 1 (nth [u1]),cells false 1 fun (j:Nat)=>ow true 7 m 1,cells false 1 (nth [fn 78 0 (nth []) 5 (nth [ref 5 0,ref 1 0,ref 4 0,ref 6 0,ref 0 0])]),cells false (m*1) fun (a:Nat)=>fz Fz.auto 1 ((ao (L.getD a 0)).l.length) fun (i x:Nat)=>ab (ao (L.getD a 0)).l i])) (cells false 1 fun (a:Nat)=>int i64 (most:Int))) (cells false 2 (nth [int i64 p.atoms,ae p.rules]))) (fz Fz.auto 1 ((ao (aK (am p).snd 3 (p.atoms.toNat))).l.length) fun (i x:Nat)=>ab (ao (aK (am p).snd 3 (p.atoms.toNat))).l i)) (fun _=>by kernel_rfl) ⟨by omega,(fun _ _=>⟨rfl,(f9 _ _ _ _ (by omega))⟩),by omega,(fun hgd=>(fun _ _=>⟨rfl,(dZ _ _ _ _ _ _)⟩)),fun hcc=>(nomatch (hc.symm.trans hcc)),fun _=>⟨by omega,⟨rfl,(bp (T:=LT) inferInstance [] 2 (fun R _ g=>hD R g) rfl rfl rfl (by exact trivial) (by exact trivial) (by exact⟨au (by exact⟨⟨trivial,trivial⟩,trivial⟩),trivial⟩) (by exact(Le.tup (fun i hi=>match i,hi with|0,_=>(Le.refl _)|1,_=>(Le.refl _) ))) (by exact⟨LeO.rflc,LeO.rflc,⟨rfl,Nat.le_refl _,fun j hj=>(by first|exact aw (by first|exact trivial|apply jH)|exact Le.of_eq (dj rfl))⟩,trivial⟩))⟩,by kernel_rfl,by omega,?_,⟨rfl,(dG _ _ _ _)⟩,⟨rfl,(bp (T:=LT) inferInstance [3] 4 (fun R _ g=>hC R (aK (am p).snd 3 (p.atoms.toNat)) (by omega) g) rfl rfl rfl (by exact⟨⟨rfl,Nat.le_refl _,fun j hj=>match j,hj with|0,_=>(Le.refl _) ⟩,trivial⟩) (by exact⟨by omega,trivial⟩) (by exact⟨(Le.fn (fun i hi=>absurd hi (by omega)) (fun i hi=>match i,hi with|0,_=>(Le.refl _) )),trivial⟩) (by exact aw (by exact trivial)) (by exact⟨LeO.rflc,LeO.rflc,LeO.rflc,LeO.rflc,trivial⟩))⟩,by omega,(fun c hc=>match c,hc with|0,_=>(by kernel_rfl) ),by omega,fun hcc=>(nomatch (hgt.symm.trans hcc)),fun _=>⟨by omega,(fun c hc=>match c,hc with|0,_=>(by kernel_rfl) ),by kernel_rfl,by omega,by omega,?_,⟨rfl,(bp (T:=LT) inferInstance [5,1,4,6,0] 7 (fun R _ g=>hF R g) rfl rfl rfl (by exact⟨⟨rfl,Nat.le_refl _,fun j hj=>match j,hj with|0,_=>(Le.refl _) ⟩,⟨rfl,Nat.le_refl _,fun j hj=>match j,hj with|0,_=>(Le.refl _) ⟩,⟨rfl,Nat.le_refl _,fun j hj=>match j,hj with|0,_=>(Le.refl _) ⟩,⟨rfl,Nat.le_refl _,fun j hj=>match j,hj with|0,_=>(Le.fn (fun i hi=>absurd hi (by omega)) (fun i hi=>match i,hi with|0,_=>(Le.refl _)|1,_=>(Le.refl _)|2,_=>(Le.refl _)|3,_=>(Le.refl _)|4,_=>(Le.refl _) )) ⟩,⟨rfl,Nat.le_refl _,fun j hj=>match j,hj with|0,_=>(Le.refl _)|1,_=>(Le.refl _) ⟩,trivial⟩) (by exact⟨by omega,by omega,by omega,by omega,by omega,trivial⟩) (by exact⟨au (by exact trivial),au (by exact trivial),Le.refl _,Le.refl _,Le.refl _,Le.refl _,Le.refl _,trivial⟩) (by exact aw (by exact trivial)) (by exact⟨⟨rfl,Nat.le_refl _,fun j hj=>match j,hj with|0,_=>(Le.refl _)|1,_=>(Le.refl _) ⟩,⟨rfl,Nat.le_refl _,fun j hj=>match j,hj with|0,_=>(Le.refl _) ⟩,LeO.rflc,LeO.rflc,⟨rfl,Nat.le_refl _,fun j hj=>match j,hj with|0,_=>(Le.refl _) ⟩,LeO.rflc,⟨rfl,Nat.le_refl _,fun j hj=>match j,hj with|0,_=>(Le.fn (fun i hi=>absurd hi (by omega)) (fun i hi=>match i,hi with|0,_=>(Le.refl _)|1,_=>(Le.refl _)|2,_=>(Le.refl _)|3,_=>(Le.refl _)|4,_=>(Le.refl _) )) ⟩,⟨rfl,Nat.le_refl _,fun j hj=>(by first|exact aw (by first|exact trivial|apply gZ)|exact Le.of_eq (jT rfl))⟩,trivial⟩))⟩,by omega,?_⟩⟩⟩
 ·intro hp' g' hs'
  exact⟨rfl,jt [2] (fun R g=>hS R g) (by exact⟨rfl,trivial⟩) rfl (by exact fun n=>⟨LeO.cells (fun j hj=>(dj trivial).symm),trivial⟩) ⟨by omega,trivial⟩ (by exact fun n=>⟨Le.refl _,Le.refl _,Le.refl _,trivial⟩) rfl (by exact fun n=>Le.refl _) (by exact fun n=>⟨LeO.cells (fun j hj=>dj trivial),trivial⟩) hp' g' hs'⟩
 ·intro hp' g' hs'
  exact⟨rfl,jt [2] (fun R g=>hS2 R g) (by exact⟨rfl,trivial⟩) rfl (by exact fun n=>⟨LeO.cells (fun j hj=>(dj trivial).symm),trivial⟩) ⟨by omega,trivial⟩ (by exact fun n=>⟨Le.refl _,Le.refl _,Le.refl _,trivial⟩) rfl (by exact fun n=>Le.refl _) (by exact fun n=>⟨LeO.cells (fun j hj=>dj trivial),trivial⟩) hp' g' hs'⟩
 ·subst hm0
  show bw Tryd.prog R 0 _ _ _ _ .ret _
  refine dh (.tup 2 (nth [.ow true 7 L.length 1,.int .i64 0])) _ rfl trivial (fG 0 [(0,.tup 2 (nth [dv L.length (fun i=>ao (L.getD i 0)),.int .i64 0]))] (Nat.le_refl _) (Nat.zero_le _) (fun i hi=>absurd hi (Nat.not_lt_zero i)) ⟨av.tup (fun j hj=>?_),trivial⟩)
  match j,hj with
  |0,_=>exact av.le (av.ow (o:=7) (N:=L.length*1) (c:=aW L) (get:=aW L) (fr:=false) rfl (Nat.zero_le _) (Nat.le_refl _) (by decide) (fun j _=>av.below (gZ _ _))) (Le.fz rfl (fun i j hi hj=>by
    show aW L (i*1+j)=_
    rw[show i*1+j=i by omega]
    rfl))
  |1,_=>exact av.below trivial
theorem zm (R:Res)[Tab LT R](p:Prg)(most:Nat)(hb:aR p=true)(hm:1<=most/\most<=100)(hO:(bC (d9 p)).length<=10)(g:R.σ):Does Tryd.prog R 27 [ay p,.int .i64 most] [] g (.ret (.tup 2 (nth [dv (stP p most).length (fun i=>ao ((stP p most).getD i 0)),.int .i64 0]))) [] g:=by
 by_cases hN:stP p most=[]
 ·rw[hN]
  exact fE (zk R p most hb hm hO hN g) (aX ⟨Le.tup (fun j hj=>match j,hj with|0,_=>Le.nil_auto|1,_=>Le.refl _),trivial⟩ trivial rfl)
 ·exact zl R p most hb hm hO hN g
theorem sN {p:Prg}(h:aR p=true):∀r,r∈p.rules.l->ct p.atoms.toNat r:=by
 obtain⟨h1,h2,h3,h4,h5⟩:=ff h
 have h3:1<=p.atoms/\p.atoms<=24:=h3
 intro r hr
 refine⟨⟨(h2 r hr).1.1,fun l hl=>?_⟩,?_⟩
 ·have:=h5 r hr l hl
  omega
 ·have:=h4 r hr
  have:=(h2 r hr).2
  omega
structure LstOk (p:Prg)(n:Nat)(s:List Bool)(left:Nat):Prop where
 len:s.length=n
 bit:∀j,j<n->s.getD j false = !left.testBit j
 lt:left<2^24
 inn:∀j,left.testBit j=true->j<n
 cls:∀x y,x<n->left.testBit x=false->Reach p x y->left.testBit y=false
section
variable {p:Prg}{n:Nat}{s:List Bool}{left:Nat}
end
end Go.Avm.Pack
namespace Go.Avm.Pack
open Go Go.Avm Go.Proofs
open Go.IntKind (i64 u64)
open Go.Avm.AV (int bool any fz fp sl ow ref fn ifc val agg tup)
open Go.Avm.AObj (cells dead)
open Go.Avm.Oc (ret)
set_option maxRecDepth 4000
theorem jU (R:Res)(a:Int)(hp:List AObj)(g:R.σ):Does Tryd.prog R 91 [.int .i64 a] hp g (.ret (bE ⟨a,false⟩)) hp g:=by
 refine ca (fun R g=>?_) (by exact⟨trivial,trivial⟩) R hp g
 refine az (nt:=5) (rs:=[.cell 2 77]) (k0:=0) (by kernel_rfl) (by kernel_rfl) (by kernel_rfl) rfl ?_
 refine vcQ [] (lkL [(0,[0,2]),(1,[2])]) (lkL [(1,[(2,ROrc.val (Orc.obj (nth [int i64 a,AV.bool false])))])]) (fun Q=>2<=2/\(∀(c:Nat),c<2->nth [int i64 a,AV.bool false] c=ah (nth [int i64 0,AV.bool false]) 0 2 (List.brecOn (motive:=fun (x:List AV)=>Nat->AV) [int i64 a,AV.bool false] nth._f) c)/\Q AEx.ret (St.mk [(2,ref 0 0)] [cells false 2 (nth [int i64 a,AV.bool false])] g)) (fun _=>by kernel_rfl) ⟨by omega,(fun c hc=>match c,hc with|0,_=>(by kernel_rfl)|1,_=>(by kernel_rfl) ),?_⟩
 refine(ax (bR (agg 2 (nth [int i64 a,AV.bool false])) ([0+(TyI.mk ((fun (x:TypeInfo)=>x.desc) Tryd.prog.types[76]) Tryd.prog.types[77].size Tryd.prog.types[77].bytes (cM (ec (Value.agg #[Value.int i64 0,Value.bool false]))) (dz ((fun (x:TypeInfo)=>x.desc) Tryd.prog.types[76])) (eN Tryd.prog 77)).size<=2]) (by kernel_rfl) (by exact⟨by decide,trivial⟩) ⟨⟨trivial,trivial⟩,trivial⟩ rfl) (Le.of_eq (by kernel_rfl)))
theorem jV (R:Res)(a:Int)(hp:List AObj)(g:R.σ):Does Tryd.prog R 92 [.int .i64 a] hp g (.ret (bE ⟨a,true⟩)) hp g:=by
 refine ca (fun R g=>?_) (by exact⟨trivial,trivial⟩) R hp g
 refine az (nt:=5) (rs:=[.cell 2 77]) (k0:=0) (by kernel_rfl) (by kernel_rfl) (by kernel_rfl) rfl ?_
 refine vcQ [] (lkL [(0,[0,2]),(1,[2])]) (lkL [(1,[(2,ROrc.val (Orc.obj (nth [int i64 a,AV.bool true])))])]) (fun Q=>2<=2/\(∀(c:Nat),c<2->nth [int i64 a,AV.bool true] c=ah (nth [int i64 0,AV.bool false]) 0 2 (List.brecOn (motive:=fun (x:List AV)=>Nat->AV) [int i64 a,AV.bool true] nth._f) c)/\Q AEx.ret (St.mk [(2,ref 0 0)] [cells false 2 (nth [int i64 a,AV.bool true])] g)) (fun _=>by kernel_rfl) ⟨by omega,(fun c hc=>match c,hc with|0,_=>(by kernel_rfl)|1,_=>(by kernel_rfl) ),?_⟩
 refine(ax (bR (agg 2 (nth [int i64 a,AV.bool true])) ([0+(TyI.mk ((fun (x:TypeInfo)=>x.desc) Tryd.prog.types[76]) Tryd.prog.types[77].size Tryd.prog.types[77].bytes (cM (ec (Value.agg #[Value.int i64 0,Value.bool false]))) (dz ((fun (x:TypeInfo)=>x.desc) Tryd.prog.types[76])) (eN Tryd.prog 77)).size<=2]) (by kernel_rfl) (by exact⟨by decide,trivial⟩) ⟨⟨trivial,trivial⟩,trivial⟩ rfl) (Le.of_eq (by kernel_rfl)))
theorem fh (R:Res)(a:Int)(b:KL Lit)(hp:List AObj)(g:R.σ):Does Tryd.prog R 90 [.int .i64 a,al b] hp g (.ret (bK ⟨a,b⟩)) hp g:=by
 refine ca (fun R g=>?_) (by exact⟨trivial,trivial,trivial⟩) R hp g
 refine az (nt:=8) (rs:=[.cell 4 75]) (k0:=0) (by kernel_rfl) (by kernel_rfl) (by kernel_rfl) rfl ?_
 refine vcQ [] (lkL [(0,[0,1,4]),(1,[4])]) (lkL [(1,[(3,ROrc.val (Orc.obj (nth [int i64 a,al b])))])]) (fun Q=>2<=2/\(∀(c:Nat),c<2->nth [int i64 a,al b] c=ah (nth [int i64 0,fz Fz.nil 0 0 fun _ _=>any]) 0 2 (List.brecOn (motive:=fun (x:List AV)=>Nat->AV) [int i64 a,al b] nth._f) c)/\Q AEx.ret (St.mk [(4,ref 0 0)] [cells false 2 (nth [int i64 a,al b])] g)) (fun _=>by kernel_rfl) ⟨by omega,(fun c hc=>match c,hc with|0,_=>(by kernel_rfl)|1,_=>(by kernel_rfl) ),?_⟩
 refine(ax (bR (agg 2 (nth [int i64 a,fz b.2 2 (b.l.length) fun (i:Nat)=>iA (b.l.getD i default)])) ([0+(TyI.mk ((fun (x:TypeInfo)=>x.desc) Tryd.prog.types[74]) Tryd.prog.types[75].size Tryd.prog.types[75].bytes (cM (ec (Value.agg #[Value.int i64 0,Value.slice none 0 0]))) (dz ((fun (x:TypeInfo)=>x.desc) Tryd.prog.types[74])) (eN Tryd.prog 75)).size<=2]) (by kernel_rfl) (by exact⟨by decide,trivial⟩) ⟨⟨trivial,trivial⟩,trivial⟩ rfl) (Le.of_eq (by kernel_rfl)))
def tN:KL Lit:=⟨[],.nil⟩
def tA1:KL Lit:=⟨[⟨0,false⟩,⟨2,true⟩],.exa⟩
def tA2:KL Lit:=⟨[⟨3,false⟩],.exa⟩
def tA3:KL Lit:=⟨[⟨2,false⟩],.exa⟩
def tA4:KL Lit:=⟨[⟨5,true⟩],.exa⟩
def tA5:KL Lit:=⟨[⟨4,true⟩],.exa⟩
def tAR:KL Rule:=⟨[⟨0,tN⟩,⟨1,tA1⟩,⟨2,tA2⟩,⟨3,tA3⟩,⟨4,tA4⟩,⟨5,tA5⟩],.exa⟩
def tA:Prg:=⟨6,tAR⟩
def tB1:KL Lit:=⟨[⟨1,true⟩],.exa⟩
def tB2:KL Lit:=⟨[⟨0,true⟩],.exa⟩
def tB3:KL Lit:=⟨[⟨0,false⟩],.exa⟩
def tB4:KL Lit:=⟨[⟨1,false⟩],.exa⟩
def tBR:KL Rule:=⟨[⟨0,tB1⟩,⟨1,tB2⟩,⟨2,tB3⟩,⟨2,tB4⟩],.exa⟩
def tB:Prg:=⟨3,tBR⟩
def tS1:KL Int:=⟨[0],.exa⟩
def tS2:KL Int:=⟨[2,3],.exa⟩
def tS3:KL Int:=⟨[1],.exa⟩
def tS:KL Step:=⟨[⟨0,tS1⟩,⟨-1,tS2⟩,⟨1,tS3⟩],.exa⟩
theorem c_A (R:Res)(hp:List AObj)(g:R.σ):Does Tryd.prog R 44 [] hp g (.ret (ay tA)) hp g:=by
 refine ca (fun R g=>?_) (by exact trivial) R hp g
 obtain⟨v0,e0⟩:∃v,v=tN:=⟨_,rfl⟩
 obtain⟨v1,e1⟩:∃v,v=tA1:=⟨_,rfl⟩
 obtain⟨v2,e2⟩:∃v,v=tA2:=⟨_,rfl⟩
 obtain⟨v3,e3⟩:∃v,v=tA3:=⟨_,rfl⟩
 obtain⟨v4,e4⟩:∃v,v=tA4:=⟨_,rfl⟩
 obtain⟨v5,e5⟩:∃v,v=tA5:=⟨_,rfl⟩
 obtain⟨w,f⟩:∃v,v=tAR:=⟨_,rfl⟩
 show Does _ _ _ _ _ _ (.ret (ay ⟨6,tAR⟩)) _ _
 rw[<-f]
 refine az (nt:=20) (rs:=[.cell 0 24]) (k0:=0) (by kernel_rfl) (by kernel_rfl) (by kernel_rfl) rfl ?_
 refine vcQ [] (lkL [(0,[0]),(1,[0])]) (lkL [(1,[(0,ROrc.pcall (bK (Rule.mk 0 (KL.mk [] Fz.nil)))),(1,ROrc.pcall (bE (Lit.mk 0 false))),(2,ROrc.pcall (bE (Lit.mk 2 true))),(3,ROrc.kop (al v1)),(4,ROrc.pcall (bK (Rule.mk 1 v1))),(5,ROrc.pcall (bE (Lit.mk 3 false))),(6,ROrc.kop (al v2)),(7,ROrc.pcall (bK (Rule.mk 2 v2))),(8,ROrc.pcall (bE (Lit.mk 2 false))),(9,ROrc.kop (al v3)),(10,ROrc.pcall (bK (Rule.mk 3 v3))),(11,ROrc.pcall (bE (Lit.mk 5 true))),(12,ROrc.kop (al v4)),(13,ROrc.pcall (bK (Rule.mk 4 v4))),(14,ROrc.pcall (bE (Lit.mk 4 true))),(15,ROrc.kop (al v5)),(16,ROrc.pcall (bK (Rule.mk 5 v5))),(17,ROrc.kop (ae w)),(19,ROrc.val (Orc.obj (nth [int i64 6,ae w])))])]) (fun Q=>(fun (u1:List Row)=>(fun (u2:List AObj)=>(fun (u3:List Row)=>(fun (u4:List Row)=>(fun (u5:List Row)=>(fun (u6:List (Nat × AV))=>(∀(hp:List AObj) (g:R.σ),true=true/\Does Tryd.prog R 90 [int i64 0,fz Fz.nil 0 0 fun _ _=>any] hp g (ret (agg 2 (nth [int i64 0,fz Fz.nil 2 0 fun (i:Nat)=>iA ((KL.mk [] Fz.nil).l.getD i default)]))) hp g)/\(∀(hp:List AObj) (g:R.σ),true=true/\Does Tryd.prog R 91 [int i64 0] hp g (ret (agg 2 (nth [int i64 0,AV.bool false]))) hp g)/\(∀(hp:List AObj) (g:R.σ),true=true/\Does Tryd.prog R 92 [int i64 2] hp g (ret (agg 2 (nth [int i64 2,AV.bool true]))) hp g)/\OpOk Tryd.prog R (Oper.mk (some 4) (Op.buildSlice 73 2 #[(0,Operand.tmp 2),(1,Operand.tmp 3)]) 73 "law.go:21" #[Edge.mk 1 Ground.data,Edge.mk 2 Ground.data] none) (evO u4 u6 []) u2 g (al v1) u2 g/\(∀(hp:List AObj) (g:R.σ),true=true/\Does Tryd.prog R 90 [int i64 1,al v1] hp g (ret (agg 2 (nth [int i64 1,al v1]))) hp g)/\(∀(hp:List AObj) (g:R.σ),true=true/\Does Tryd.prog R 91 [int i64 3] hp g (ret (agg 2 (nth [int i64 3,AV.bool false]))) hp g)/\OpOk Tryd.prog R (Oper.mk (some 7) (Op.buildSlice 73 1 #[(0,Operand.tmp 6)]) 73 "law.go:21" #[Edge.mk 5 Ground.data] none) (evO (Row.mk (some 6) none (agg 2 (nth [int i64 3,AV.bool false])) false (some []) []::Row.mk (some 5) none (agg 2 (nth [int i64 1,al v1])) false (some []) []::Row.mk (some 4) none (al v1) true (some []) []::u4) u6 []) u2 g (al v2) u2 g/\(∀(hp:List AObj) (g:R.σ),true=true/\Does Tryd.prog R 90 [int i64 2,al v2] hp g (ret (agg 2 (nth [int i64 2,al v2]))) hp g)/\(∀(hp:List AObj) (g:R.σ),true=true/\Does Tryd.prog R 91 [int i64 2] hp g (ret (agg 2 (nth [int i64 2,AV.bool false]))) hp g)/\OpOk Tryd.prog R (Oper.mk (some 10) (Op.buildSlice 73 1 #[(0,Operand.tmp 9)]) 73 "law.go:21" #[Edge.mk 8 Ground.data] none) (evO u1 u6 []) u2 g (al v3) u2 g/\(∀(hp:List AObj) (g:R.σ),true=true/\Does Tryd.prog R 90 [int i64 3,al v3] hp g (ret (agg 2 (nth [int i64 3,al v3]))) hp g)/\(∀(hp:List AObj) (g:R.σ),true=true/\Does Tryd.prog R 92 [int i64 5] hp g (ret (agg 2 (nth [int i64 5,AV.bool true]))) hp g)/\OpOk Tryd.prog R (Oper.mk (some 13) (Op.buildSlice 73 1 #[(0,Operand.tmp 12)]) 73 "law.go:21" #[Edge.mk 11 Ground.data] none) (evO u3 u6 []) u2 g (al v4) u2 g/\(∀(hp:List AObj) (g:R.σ),true=true/\Does Tryd.prog R 90 [int i64 4,al v4] hp g (ret (agg 2 (nth [int i64 4,al v4]))) hp g)/\(∀(hp:List AObj) (g:R.σ),true=true/\Does Tryd.prog R 92 [int i64 4] hp g (ret (agg 2 (nth [int i64 4,AV.bool true]))) hp g)/\OpOk Tryd.prog R (Oper.mk (some 16) (Op.buildSlice 73 1 #[(0,Operand.tmp 15)]) 73 "law.go:21" #[Edge.mk 14 Ground.data] none) (evO u5 u6 []) u2 g (al v5) u2 g/\(∀(hp:List AObj) (g:R.σ),true=true/\Does Tryd.prog R 90 [int i64 5,al v5] hp g (ret (agg 2 (nth [int i64 5,al v5]))) hp g)/\OpOk Tryd.prog R (Oper.mk (some 18) (Op.buildSlice 22 6 #[(0,Operand.tmp 1),(1,Operand.tmp 5),(2,Operand.tmp 8),(3,Operand.tmp 11),(4,Operand.tmp 14),(5,Operand.tmp 17)]) 22 "law.go:21" #[Edge.mk 0 Ground.data,Edge.mk 4 Ground.data,Edge.mk 7 Ground.data,Edge.mk 10 Ground.data,Edge.mk 13 Ground.data,Edge.mk 16 Ground.data] none) (evO (Row.mk (some 17) none (agg 2 (nth [int i64 5,al v5])) false (some []) []::Row.mk (some 16) none (al v5) true (some []) []::u5) u6 []) u2 g (ae w) u2 g/\2<=2/\(∀(c:Nat),c<2->nth [int i64 6,ae w] c=ah (nth [int i64 0,fz Fz.nil 0 0 fun _ _=>any]) 0 2 (List.brecOn (motive:=fun (x:List AV)=>Nat->AV) [int i64 6,ae w] nth._f) c)/\Q AEx.ret (St.mk u6 [cells false 2 (nth [int i64 6,ae w])] g)) ([(0,ref 0 0)])) (Row.mk (some 15) none (agg 2 (nth [int i64 4,AV.bool true])) false (some []) []::Row.mk (some 14) none (agg 2 (nth [int i64 4,al v4])) false (some []) []::Row.mk (some 13) none (al v4) true (some []) []::u3)) ([Row.mk (some 3) none (agg 2 (nth [int i64 2,AV.bool true])) false (some []) [],Row.mk (some 2) none (agg 2 (nth [int i64 0,AV.bool false])) false (some []) [],Row.mk (some 1) none (agg 2 (nth [int i64 0,fz Fz.nil 2 0 fun (i:Nat)=>iA (List.getD [] i default)])) false (some []) []])) (Row.mk (some 12) none (agg 2 (nth [int i64 5,AV.bool true])) false (some []) []::Row.mk (some 11) none (agg 2 (nth [int i64 3,al v3])) false (some []) []::Row.mk (some 10) none (al v3) true (some []) []::u1)) ([cells false 2 (nth [int i64 0,fz Fz.nil 0 0 fun _ _=>any])])) ([Row.mk (some 9) none (agg 2 (nth [int i64 2,AV.bool false])) false (some []) [],Row.mk (some 8) none (agg 2 (nth [int i64 2,al v2])) false (some []) [],Row.mk (some 7) none (al v2) true (some []) [],Row.mk (some 6) none (agg 2 (nth [int i64 3,AV.bool false])) false (some []) [],Row.mk (some 5) none (agg 2 (nth [int i64 1,al v1])) false (some []) [],Row.mk (some 4) none (al v1) true (some []) [],Row.mk (some 3) none (agg 2 (nth [int i64 2,AV.bool true])) false (some []) [],Row.mk (some 2) none (agg 2 (nth [int i64 0,AV.bool false])) false (some []) [],Row.mk (some 1) none (agg 2 (nth [int i64 0,fz Fz.nil 2 0 fun (i:Nat)=>iA (List.getD [] i default)])) false (some []) []])) (fun _=>by kernel_rfl) ⟨(fun _ _=>⟨rfl,(mP (args':=[int i64 0,al (KL.mk [] Fz.nil)]) (fh _ _ (KL.mk [] Fz.nil) _ _) (by exact⟨Le.refl _,Le.nil,trivial⟩) (Le.refl _))⟩),(fun _ _=>⟨rfl,(jU _ _ _ _)⟩),(fun _ _=>⟨rfl,(jV _ _ _ _)⟩),?_,(fun _ _=>⟨rfl,(fh _ _ _ _ _)⟩),(fun _ _=>⟨rfl,(jU _ _ _ _)⟩),?_,(fun _ _=>⟨rfl,(fh _ _ _ _ _)⟩),(fun _ _=>⟨rfl,(jU _ _ _ _)⟩),?_,(fun _ _=>⟨rfl,(fh _ _ _ _ _)⟩),(fun _ _=>⟨rfl,(jV _ _ _ _)⟩),?_,(fun _ _=>⟨rfl,(fh _ _ _ _ _)⟩),(fun _ _=>⟨rfl,(jV _ _ _ _)⟩),?_,(fun _ _=>⟨rfl,(fh _ _ _ _ _)⟩),?_,by omega,(fun c hc=>match c,hc with|0,_=>(by kernel_rfl)|1,_=>(by kernel_rfl) ),?_⟩
 ·subst e1;exact cj (n:=2) (es:=2) (by kernel_rfl) (by exact⟨⟨⟨trivial,trivial⟩,trivial⟩,⟨⟨trivial,trivial⟩,trivial⟩,trivial⟩) rfl rfl (fun i hi j hj=>match i,hi,j,hj with|0,_,0,_=>(by kernel_rfl)|0,_,1,_=>(by kernel_rfl)|1,_,0,_=>(by kernel_rfl)|1,_,1,_=>(by kernel_rfl) ) (fun i hi j hj=>match i,hi,j,hj with|0,_,0,_=>trivial|0,_,1,_=>trivial|1,_,0,_=>trivial|1,_,1,_=>trivial )
 ·subst e2;exact cj (n:=1) (es:=2) (by kernel_rfl) (by exact⟨⟨⟨trivial,trivial⟩,trivial⟩,trivial⟩) rfl rfl (fun i hi j hj=>match i,hi,j,hj with|0,_,0,_=>(by kernel_rfl)|0,_,1,_=>(by kernel_rfl) ) (fun i hi j hj=>match i,hi,j,hj with|0,_,0,_=>trivial|0,_,1,_=>trivial )
 ·subst e3;exact cj (n:=1) (es:=2) (by kernel_rfl) (by exact⟨⟨⟨trivial,trivial⟩,trivial⟩,trivial⟩) rfl rfl (fun i hi j hj=>match i,hi,j,hj with|0,_,0,_=>(by kernel_rfl)|0,_,1,_=>(by kernel_rfl) ) (fun i hi j hj=>match i,hi,j,hj with|0,_,0,_=>trivial|0,_,1,_=>trivial )
 ·subst e4;exact cj (n:=1) (es:=2) (by kernel_rfl) (by exact⟨⟨⟨trivial,trivial⟩,trivial⟩,trivial⟩) rfl rfl (fun i hi j hj=>match i,hi,j,hj with|0,_,0,_=>(by kernel_rfl)|0,_,1,_=>(by kernel_rfl) ) (fun i hi j hj=>match i,hi,j,hj with|0,_,0,_=>trivial|0,_,1,_=>trivial )
 ·subst e5;exact cj (n:=1) (es:=2) (by kernel_rfl) (by exact⟨⟨⟨trivial,trivial⟩,trivial⟩,trivial⟩) rfl rfl (fun i hi j hj=>match i,hi,j,hj with|0,_,0,_=>(by kernel_rfl)|0,_,1,_=>(by kernel_rfl) ) (fun i hi j hj=>match i,hi,j,hj with|0,_,0,_=>trivial|0,_,1,_=>trivial )
 ·subst e1 e2 e3 e4 e5 f;exact cj (n:=6) (es:=2) (by kernel_rfl) (by exact⟨⟨⟨trivial,trivial⟩,trivial⟩,⟨⟨trivial,trivial⟩,trivial⟩,⟨⟨trivial,trivial⟩,trivial⟩,⟨⟨trivial,trivial⟩,trivial⟩,⟨⟨trivial,trivial⟩,trivial⟩,⟨⟨trivial,trivial⟩,trivial⟩,trivial⟩) rfl rfl (fun i hi j hj=>match i,hi,j,hj with|0,_,0,_=>(by kernel_rfl)|0,_,1,_=>(by kernel_rfl)|1,_,0,_=>(by kernel_rfl)|1,_,1,_=>(by kernel_rfl)|2,_,0,_=>(by kernel_rfl)|2,_,1,_=>(by kernel_rfl)|3,_,0,_=>(by kernel_rfl)|3,_,1,_=>(by kernel_rfl)|4,_,0,_=>(by kernel_rfl)|4,_,1,_=>(by kernel_rfl)|5,_,0,_=>(by kernel_rfl)|5,_,1,_=>(by kernel_rfl) ) (fun i hi j hj=>match i,hi,j,hj with|0,_,0,_=>trivial|0,_,1,_=>trivial|1,_,0,_=>trivial|1,_,1,_=>trivial|2,_,0,_=>trivial|2,_,1,_=>trivial|3,_,0,_=>trivial|3,_,1,_=>trivial|4,_,0,_=>trivial|4,_,1,_=>trivial|5,_,0,_=>trivial|5,_,1,_=>trivial )
 ·refine(ax (bR (agg 2 (nth [int i64 6,fz w.2 2 (w.l.length) fun (i:Nat)=>bJ (w.l.getD i default)])) ([0+(TyI.mk ((fun (x:TypeInfo)=>x.desc) Tryd.prog.types[23]) Tryd.prog.types[24].size Tryd.prog.types[24].bytes (cM (ec (Value.agg #[Value.int i64 0,Value.slice none 0 0]))) (dz ((fun (x:TypeInfo)=>x.desc) Tryd.prog.types[23])) (eN Tryd.prog 24)).size<=2]) (by kernel_rfl) (by exact⟨by decide,trivial⟩) ⟨⟨trivial,trivial⟩,trivial⟩ rfl) (Le.of_eq (by kernel_rfl)))
theorem c_B (R:Res)(hp:List AObj)(g:R.σ):Does Tryd.prog R 45 [] hp g (.ret (ay tB)) hp g:=by
 refine ca (fun R g=>?_) (by exact trivial) R hp g
 obtain⟨v1,e1⟩:∃v,v=tB1:=⟨_,rfl⟩
 obtain⟨v2,e2⟩:∃v,v=tB2:=⟨_,rfl⟩
 obtain⟨v3,e3⟩:∃v,v=tB3:=⟨_,rfl⟩
 obtain⟨v4,e4⟩:∃v,v=tB4:=⟨_,rfl⟩
 obtain⟨w,f⟩:∃v,v=tBR:=⟨_,rfl⟩
 show Does _ _ _ _ _ _ (.ret (ay ⟨3,tBR⟩)) _ _
 rw[<-f]
 refine az (nt:=15) (rs:=[.cell 0 24]) (k0:=0) (by kernel_rfl) (by kernel_rfl) (by kernel_rfl) rfl ?_
 refine vcQ [] (lkL [(0,[0]),(1,[0])]) (lkL [(1,[(0,ROrc.pcall (bE (Lit.mk 1 true))),(1,ROrc.kop (al v1)),(2,ROrc.pcall (bK (Rule.mk 0 v1))),(3,ROrc.pcall (bE (Lit.mk 0 true))),(4,ROrc.kop (al v2)),(5,ROrc.pcall (bK (Rule.mk 1 v2))),(6,ROrc.pcall (bE (Lit.mk 0 false))),(7,ROrc.kop (al v3)),(8,ROrc.pcall (bK (Rule.mk 2 v3))),(9,ROrc.pcall (bE (Lit.mk 1 false))),(10,ROrc.kop (al v4)),(11,ROrc.pcall (bK (Rule.mk 2 v4))),(12,ROrc.kop (ae w)),(14,ROrc.val (Orc.obj (nth [int i64 3,ae w])))])]) (fun Q=>(fun (u1:List Row)=>(fun (u2:List AObj)=>(fun (u3:List Row)=>(fun (u4:Row)=>(fun (u5:AV)=>(∀(hp:List AObj) (g:R.σ),true=true/\Does Tryd.prog R 92 [int i64 1] hp g (ret (agg 2 (nth [int i64 1,AV.bool true]))) hp g)/\OpOk Tryd.prog R (Oper.mk (some 2) (Op.buildSlice 73 1 #[(0,Operand.tmp 1)]) 73 "law.go:25" #[Edge.mk 0 Ground.data] none) (evO [u4] [(0,ref 0 0)] []) u2 g (al v1) u2 g/\(∀(hp:List AObj) (g:R.σ),true=true/\Does Tryd.prog R 90 [u5,al v1] hp g (ret (agg 2 (nth [u5,al v1]))) hp g)/\(∀(hp:List AObj) (g:R.σ),true=true/\Does Tryd.prog R 92 [u5] hp g (ret (agg 2 (nth [u5,AV.bool true]))) hp g)/\OpOk Tryd.prog R (Oper.mk (some 5) (Op.buildSlice 73 1 #[(0,Operand.tmp 4)]) 73 "law.go:25" #[Edge.mk 3 Ground.data] none) (evO [Row.mk (some 4) none (agg 2 (nth [u5,AV.bool true])) false (some []) [],Row.mk (some 3) none (agg 2 (nth [u5,al v1])) false (some []) [],Row.mk (some 2) none (al v1) true (some []) [],u4] [(0,ref 0 0)] []) u2 g (al v2) u2 g/\(∀(hp:List AObj) (g:R.σ),true=true/\Does Tryd.prog R 90 [int i64 1,al v2] hp g (ret (agg 2 (nth [int i64 1,al v2]))) hp g)/\(∀(hp:List AObj) (g:R.σ),true=true/\Does Tryd.prog R 91 [u5] hp g (ret (agg 2 (nth [u5,AV.bool false]))) hp g)/\OpOk Tryd.prog R (Oper.mk (some 8) (Op.buildSlice 73 1 #[(0,Operand.tmp 7)]) 73 "law.go:25" #[Edge.mk 6 Ground.data] none) (evO u1 [(0,ref 0 0)] []) u2 g (al v3) u2 g/\(∀(hp:List AObj) (g:R.σ),true=true/\Does Tryd.prog R 90 [int i64 2,al v3] hp g (ret (agg 2 (nth [int i64 2,al v3]))) hp g)/\(∀(hp:List AObj) (g:R.σ),true=true/\Does Tryd.prog R 91 [int i64 1] hp g (ret (agg 2 (nth [int i64 1,AV.bool false]))) hp g)/\OpOk Tryd.prog R (Oper.mk (some 11) (Op.buildSlice 73 1 #[(0,Operand.tmp 10)]) 73 "law.go:25" #[Edge.mk 9 Ground.data] none) (evO u3 [(0,ref 0 0)] []) u2 g (al v4) u2 g/\(∀(hp:List AObj) (g:R.σ),true=true/\Does Tryd.prog R 90 [int i64 2,al v4] hp g (ret (agg 2 (nth [int i64 2,al v4]))) hp g)/\OpOk Tryd.prog R (Oper.mk (some 13) (Op.buildSlice 22 4 #[(0,Operand.tmp 3),(1,Operand.tmp 6),(2,Operand.tmp 9),(3,Operand.tmp 12)]) 22 "law.go:25" #[Edge.mk 2 Ground.data,Edge.mk 5 Ground.data,Edge.mk 8 Ground.data,Edge.mk 11 Ground.data] none) (evO (Row.mk (some 12) none (agg 2 (nth [int i64 2,al v4])) false (some []) []::Row.mk (some 11) none (al v4) true (some []) []::u3) [(0,ref 0 0)] []) u2 g (ae w) u2 g/\2<=2/\(∀(c:Nat),c<2->nth [int i64 3,ae w] c=ah (nth [u5,fz Fz.nil 0 0 fun _ _=>any]) 0 2 (List.brecOn (motive:=fun (x:List AV)=>Nat->AV) [int i64 3,ae w] nth._f) c)/\Q AEx.ret (St.mk [(0,ref 0 0)] [cells false 2 (nth [int i64 3,ae w])] g)) (int i64 0)) (Row.mk (some 1) none (agg 2 (nth [int i64 1,AV.bool true])) false (some []) [])) (Row.mk (some 10) none (agg 2 (nth [int i64 1,AV.bool false])) false (some []) []::Row.mk (some 9) none (agg 2 (nth [int i64 2,al v3])) false (some []) []::Row.mk (some 8) none (al v3) true (some []) []::u1)) ([cells false 2 (nth [int i64 0,fz Fz.nil 0 0 fun _ _=>any])])) ([Row.mk (some 7) none (agg 2 (nth [int i64 0,AV.bool false])) false (some []) [],Row.mk (some 6) none (agg 2 (nth [int i64 1,al v2])) false (some []) [],Row.mk (some 5) none (al v2) true (some []) [],Row.mk (some 4) none (agg 2 (nth [int i64 0,AV.bool true])) false (some []) [],Row.mk (some 3) none (agg 2 (nth [int i64 0,al v1])) false (some []) [],Row.mk (some 2) none (al v1) true (some []) [],Row.mk (some 1) none (agg 2 (nth [int i64 1,AV.bool true])) false (some []) []])) (fun _=>by kernel_rfl) ⟨(fun _ _=>⟨rfl,(jV _ _ _ _)⟩),?_,(fun _ _=>⟨rfl,(fh _ _ _ _ _)⟩),(fun _ _=>⟨rfl,(jV _ _ _ _)⟩),?_,(fun _ _=>⟨rfl,(fh _ _ _ _ _)⟩),(fun _ _=>⟨rfl,(jU _ _ _ _)⟩),?_,(fun _ _=>⟨rfl,(fh _ _ _ _ _)⟩),(fun _ _=>⟨rfl,(jU _ _ _ _)⟩),?_,(fun _ _=>⟨rfl,(fh _ _ _ _ _)⟩),?_,by omega,(fun c hc=>match c,hc with|0,_=>(by kernel_rfl)|1,_=>(by kernel_rfl) ),?_⟩
 ·subst e1;exact cj (n:=1) (es:=2) (by kernel_rfl) (by exact⟨⟨⟨trivial,trivial⟩,trivial⟩,trivial⟩) rfl rfl (fun i hi j hj=>match i,hi,j,hj with|0,_,0,_=>(by kernel_rfl)|0,_,1,_=>(by kernel_rfl) ) (fun i hi j hj=>match i,hi,j,hj with|0,_,0,_=>trivial|0,_,1,_=>trivial )
 ·subst e2;exact cj (n:=1) (es:=2) (by kernel_rfl) (by exact⟨⟨⟨trivial,trivial⟩,trivial⟩,trivial⟩) rfl rfl (fun i hi j hj=>match i,hi,j,hj with|0,_,0,_=>(by kernel_rfl)|0,_,1,_=>(by kernel_rfl) ) (fun i hi j hj=>match i,hi,j,hj with|0,_,0,_=>trivial|0,_,1,_=>trivial )
 ·subst e3;exact cj (n:=1) (es:=2) (by kernel_rfl) (by exact⟨⟨⟨trivial,trivial⟩,trivial⟩,trivial⟩) rfl rfl (fun i hi j hj=>match i,hi,j,hj with|0,_,0,_=>(by kernel_rfl)|0,_,1,_=>(by kernel_rfl) ) (fun i hi j hj=>match i,hi,j,hj with|0,_,0,_=>trivial|0,_,1,_=>trivial )
 ·subst e4;exact cj (n:=1) (es:=2) (by kernel_rfl) (by exact⟨⟨⟨trivial,trivial⟩,trivial⟩,trivial⟩) rfl rfl (fun i hi j hj=>match i,hi,j,hj with|0,_,0,_=>(by kernel_rfl)|0,_,1,_=>(by kernel_rfl) ) (fun i hi j hj=>match i,hi,j,hj with|0,_,0,_=>trivial|0,_,1,_=>trivial )
 ·subst e1 e2 e3 e4 f;exact cj (n:=4) (es:=2) (by kernel_rfl) (by exact⟨⟨⟨trivial,trivial⟩,trivial⟩,⟨⟨trivial,trivial⟩,trivial⟩,⟨⟨trivial,trivial⟩,trivial⟩,⟨⟨trivial,trivial⟩,trivial⟩,trivial⟩) rfl rfl (fun i hi j hj=>match i,hi,j,hj with|0,_,0,_=>(by kernel_rfl)|0,_,1,_=>(by kernel_rfl)|1,_,0,_=>(by kernel_rfl)|1,_,1,_=>(by kernel_rfl)|2,_,0,_=>(by kernel_rfl)|2,_,1,_=>(by kernel_rfl)|3,_,0,_=>(by kernel_rfl)|3,_,1,_=>(by kernel_rfl) ) (fun i hi j hj=>match i,hi,j,hj with|0,_,0,_=>trivial|0,_,1,_=>trivial|1,_,0,_=>trivial|1,_,1,_=>trivial|2,_,0,_=>trivial|2,_,1,_=>trivial|3,_,0,_=>trivial|3,_,1,_=>trivial )
 ·refine(ax (bR (agg 2 (nth [int i64 3,fz w.2 2 (w.l.length) fun (i:Nat)=>bJ (w.l.getD i default)])) ([0+(TyI.mk ((fun (x:TypeInfo)=>x.desc) Tryd.prog.types[23]) Tryd.prog.types[24].size Tryd.prog.types[24].bytes (cM (ec (Value.agg #[Value.int i64 0,Value.slice none 0 0]))) (dz ((fun (x:TypeInfo)=>x.desc) Tryd.prog.types[23])) (eN Tryd.prog 24)).size<=2]) (by kernel_rfl) (by exact⟨by decide,trivial⟩) ⟨⟨trivial,trivial⟩,trivial⟩ rfl) (Le.of_eq (by kernel_rfl)))
theorem zn (R:Res)(hp:List AObj)(g:R.σ):Does Tryd.prog R 57 [] hp g (.ret (aJ tS)) hp g:=by
 refine ca (fun R g=>?_) (by exact trivial) R hp g
 obtain⟨v1,e1⟩:∃v,v=tS1:=⟨_,rfl⟩
 obtain⟨v2,e2⟩:∃v,v=tS2:=⟨_,rfl⟩
 obtain⟨v3,e3⟩:∃v,v=tS3:=⟨_,rfl⟩
 obtain⟨w,f⟩:∃v,v=tS:=⟨_,rfl⟩
 rw[<-f]
 refine az (nt:=8) (rs:=[.tmp 0]) (k0:=0) (by kernel_rfl) (by kernel_rfl) (by kernel_rfl) rfl ?_
 refine vcQ [] (lkL [(1,[0])]) (lkL [(1,[(0,ROrc.kop (ap v1)),(2,ROrc.kop (ap v2)),(4,ROrc.kop (ap v3)),(6,ROrc.kop (aJ w))])]) (fun Q=>(fun (u1:List Row)=>OpOk Tryd.prog R (Oper.mk (some 1) (Op.buildSlice 53 1 #[(0,Operand.const (Value.int i64 0))]) 53 "law.go:30" #[] none) (evO [] [] []) [] g (ap v1) [] g/\OpOk Tryd.prog R (Oper.mk (some 3) (Op.buildSlice 53 2 #[(0,Operand.const (Value.int i64 2)),(1,Operand.const (Value.int i64 3))]) 53 "law.go:30" #[] none) (evO [Row.mk (some 2) none (agg 2 (nth [int i64 0,ap v1])) false (some []) [],Row.mk (some 1) none (ap v1) true (some []) []] [] []) [] g (ap v2) [] g/\OpOk Tryd.prog R (Oper.mk (some 5) (Op.buildSlice 53 1 #[(0,Operand.const (Value.int i64 1))]) 53 "law.go:30" #[] none) (evO u1 [] []) [] g (ap v3) [] g/\OpOk Tryd.prog R (Oper.mk (some 7) (Op.buildSlice 29 3 #[(0,Operand.tmp 2),(1,Operand.tmp 4),(2,Operand.tmp 6)]) 29 "law.go:30" #[Edge.mk 1 Ground.data,Edge.mk 3 Ground.data,Edge.mk 5 Ground.data] none) (evO (Row.mk (some 6) none (agg 2 (nth [int i64 1,ap v3])) false (some []) []::Row.mk (some 5) none (ap v3) true (some []) []::u1) [] []) [] g (aJ w) [] g/\Q AEx.ret (St.mk [(0,aJ w)] [] g)) ([Row.mk (some 4) none (agg 2 (nth [int i64 (-1),ap v2])) false (some []) [],Row.mk (some 3) none (ap v2) true (some []) [],Row.mk (some 2) none (agg 2 (nth [int i64 0,ap v1])) false (some []) [],Row.mk (some 1) none (ap v1) true (some []) []])) (fun _=>by kernel_rfl) ⟨?_,?_,?_,?_,?_⟩
 ·subst e1;exact cj (n:=1) (es:=1) (by kernel_rfl) (by exact⟨trivial,trivial⟩) rfl rfl (fun i hi j hj=>match i,hi,j,hj with|0,_,0,_=>(by kernel_rfl) ) (fun i hi j hj=>match i,hi,j,hj with|0,_,0,_=>trivial )
 ·subst e2;exact cj (n:=2) (es:=1) (by kernel_rfl) (by exact⟨trivial,trivial,trivial⟩) rfl rfl (fun i hi j hj=>match i,hi,j,hj with|0,_,0,_=>(by kernel_rfl)|1,_,0,_=>(by kernel_rfl) ) (fun i hi j hj=>match i,hi,j,hj with|0,_,0,_=>trivial|1,_,0,_=>trivial )
 ·subst e3;exact cj (n:=1) (es:=1) (by kernel_rfl) (by exact⟨trivial,trivial⟩) rfl rfl (fun i hi j hj=>match i,hi,j,hj with|0,_,0,_=>(by kernel_rfl) ) (fun i hi j hj=>match i,hi,j,hj with|0,_,0,_=>trivial )
 ·subst e1 e2 e3 f;exact cj (n:=3) (es:=2) (by kernel_rfl) (by exact⟨⟨⟨trivial,trivial⟩,trivial⟩,⟨⟨trivial,trivial⟩,trivial⟩,⟨⟨trivial,trivial⟩,trivial⟩,trivial⟩) rfl rfl (fun i hi j hj=>match i,hi,j,hj with|0,_,0,_=>(by kernel_rfl)|0,_,1,_=>(by kernel_rfl)|1,_,0,_=>(by kernel_rfl)|1,_,1,_=>(by kernel_rfl)|2,_,0,_=>(by kernel_rfl)|2,_,1,_=>(by kernel_rfl) ) (fun i hi j hj=>match i,hi,j,hj with|0,_,0,_=>trivial|0,_,1,_=>trivial|1,_,0,_=>trivial|1,_,1,_=>trivial|2,_,0,_=>trivial|2,_,1,_=>trivial )
 ·refine(ax (bj _ _ rfl trivial rfl rfl rfl) (Le.of_eq (by kernel_rfl)))
theorem lM:aR tA=true:=by kernel_rfl
theorem zo:aR tB=true:=by kernel_rfl
theorem zp:(am tA).1=[⟨0,[0]⟩,⟨-1,[2,3]⟩,⟨1,[1]⟩]:=by kernel_rfl
theorem sO:(ew tA (am tA).2).l=[2,2,1,1,3,3]:=by kernel_rfl
theorem sP:cE tA=[1,12,2,48]:=by kernel_rfl
theorem zq:(am (aE tA (hgP tA 1))).2 1=2:=by kernel_rfl
theorem zr:(cF (hgP tA 1) (aS (hgP tA 1) tA.rules.l 0) (am (aE tA (hgP tA 1))).1).l.map cC=tS.l.map cC:=by kernel_rfl
theorem zt:(bC (d9 tB)).length<=10:=by decide
theorem sQ:stP tB 9=[6,5]:=by kernel_rfl
def tT:KL Step:=⟨[⟨1,tS3⟩],.opn⟩
def tV:KL Int:=⟨[2,2,1,1,3,3],.exa⟩
def tO1:KL Int:=⟨[0],.exa⟩
def tO2:KL Int:=⟨[2,3],.exa⟩
def tO3:KL Int:=⟨[1],.exa⟩
def tO4:KL Int:=⟨[4,5],.exa⟩
def tO (i:Nat):KL Int:=[tO1,tO2,tO3,tO4].getD i ⟨[],.nil⟩
def tM1:KL Int:=⟨[1,2],.exa⟩
def tM2:KL Int:=⟨[0,2],.exa⟩
def tM (i:Nat):KL Int:=[tM1,tM2].getD i ⟨[],.nil⟩
theorem zu:eo tA (fun _=>3) (tT.l.getD 0 default)=false:=by kernel_rfl
theorem zv:(aA (am tA).1).l.map cC=tS.l.map cC:=by kernel_rfl
theorem zw:∀i,((aA (am tA).1).l.getD i default).atoms.l.length<1000000:=by
 intro i
 match i with
 |0=>exact of_decide_eq_true (by kernel_rfl)
 |1=>exact of_decide_eq_true (by kernel_rfl)
 |2=>exact of_decide_eq_true (by kernel_rfl)
 |_+3=>exact of_decide_eq_true (by kernel_rfl)
theorem zx:∀i,((cF (hgP tA 1) (aS (hgP tA 1) tA.rules.l 0) (am (aE tA (hgP tA 1))).1).l.getD i default).atoms.l.length<1000000:=by
 intro i
 match i with
 |0=>exact of_decide_eq_true (by kernel_rfl)
 |1=>exact of_decide_eq_true (by kernel_rfl)
 |2=>exact of_decide_eq_true (by kernel_rfl)
 |_+3=>exact of_decide_eq_true (by kernel_rfl)
theorem sR {s:Nat}:(ao s).l.length<1000000:=by
 show(bC s).length<1000000
 rw[gg]
 have:=gQ s
 omega
def lsX (n:Nat)(b:Nat->KL Int):AV:=.fz .exa 1 n (fun i _=>ap (b i))
theorem sS (R:Res)(n:Nat)(a b:Nat->KL Int)(hp:List AObj)(g:R.σ)(hn:n<1000000)(h:∀i,i<n->(a i).l=(b i).l)(hl:∀i,(a i).l.length<1000000) :
  Does Tryd.prog R 29 [dv n a,.fz .exa 1 n (fun i _=>ap (b i))] hp g (.ret (.bool true)) hp g:=by
 refine ca (fun R g=>?_) (by exact⟨trivial,trivial,trivial⟩) R hp g
 refine az (nt:=34) (rs:=[.tmp 4]) (k0:=0) (by kernel_rfl) (by kernel_rfl) (by kernel_rfl) rfl ?_
 refine vcQ [] (lkL [(0,[0,1]),(1,[0,1,5])]) (fun _=>[]) (fun Q=>Wp Tryd.prog R 34 0 Rd.top (af Tryd.prog 29) [1,0,1,0] (aq Tryd.prog R 34 0 Rd.top (af Tryd.prog 29) Q [Kont.blk 0,Kont.seq [1,1]]) (St.mk [(0,dv n a),(1,fz Fz.exa 1 n fun (i x:Nat)=>ap (b i)),(5,int i64 0)] [] g)) (fun _=>by kernel_rfl) (?_)
 refine(bg (by kernel_rfl) (fun (i:Nat)=>⟨[(0,dv n a),(1,fz Fz.exa 1 n fun (i x:Nat)=>ap (b i)),(5,.int .i64 i)],[],g⟩) (fun (i:Nat)=>(i<=n)) (fun (i:Nat)=>(n-i)) 0 (bh ⟨Le.refl _,Le.refl _,(Le.of_eq (by kernel_rfl)),trivial⟩ rfl rfl) ?_ (fun i hi=>?_))
 ·omega
 ·have h1:=hl i
  refine vcQ [] (lkL [(2,[0,1,5,16]),(4,[0,1,5,28]),(5,[4]),(3,[0,1,5])]) (lkL [(4,[(8,ROrc.pcall (AV.bool (decide ((a i).l=(b i).l))))])]) (fun Q=>(fun (u1:Bool)=>(fun (u2:Int)=>(u1=true->Tables.follows Tryd.prog.toTables Departure.mixedOrders=true/\(0<=u2/\u2<(n:Int))/\1<=1/\(0<=u2/\u2<(n:Int))/\1<=1/\(∀(hp:List AObj) (g:R.σ),true=true/\Does Tryd.prog R 33 [ap (a i),ap (b i)] hp g (ret (AV.bool (decide ((a i).l=(b i).l)))) hp g)/\((!decide ((a i).l=(b i).l))=true->Q AEx.ret (St.mk [(4,AV.bool false)] [] g))/\((!decide ((a i).l=(b i).l))=false->(-9223372036854775808<=u2+1/\u2+1<=9223372036854775807)/\Q AEx.normal (St.mk [(0,dv n a),(1,fz Fz.exa 1 n fun (i x:Nat)=>ap (b i)),(5,int i64 (u2+1))] [] g)))/\(u1=false->Q (AEx.exit 0) (St.mk [(0,dv n a),(1,fz Fz.exa 1 n fun (i x:Nat)=>ap (b i)),(5,int i64 u2),(16,AV.bool u1)] [] g))) ((i:Int))) (bif decide ((i:Int)<(n:Int)) then(n:Int)==(n:Int) else false)) (fun _=>by kernel_rfl) ⟨fun c1=>have c1:(i:Int)<(n:Int)/\(n:Int)=(n:Int):=⟨(of_decide_eq_true (cV c1).1),(beq_iff_eq.mp (cV c1).2)⟩;⟨by kernel_rfl,by omega,by omega,by omega,by omega,(fun _ _=>⟨rfl,(qC _ _ _ _ _ (by omega))⟩),fun c2=>have c2:¬(a i).l=(b i).l:=(of_decide_eq_false ((Bool.not_eq_true' _).mp c2));?_,fun c2=>have c2:(a i).l=(b i).l:=(of_decide_eq_true ((Bool.not_eq_false' _).mp c2));⟨by omega,?_⟩⟩,fun c1=>have c1:¬(i:Int)<(n:Int)∨¬(n:Int)=(n:Int):=((fB c1).imp (fun h=>(of_decide_eq_false h)) (fun h=>(beq_eq_false_iff_ne.mp h)));?_⟩
  ·exact absurd (h i (by omega)) c2
  ·refine(aL (i+1) (bh ⟨Le.refl _,Le.refl _,(Le.of_eq (by kernel_rfl)),trivial⟩ rfl rfl) ?_ ?_)
   ·omega
   ·omega
  ·refine⟨_,To.refl _,vcQ [] (lkL [(6,[4])]) (fun _=>[]) (fun Q=>Q AEx.ret (St.mk [(4,AV.bool ((n:Int)==(n:Int)))] [] g)) (fun _=>by kernel_rfl) (?_)⟩
   refine(ax (bj _ _ rfl trivial rfl rfl rfl) (Le.of_eq ?_))
   show(AV.bool ((↑n:Int)==(↑n:Int)))=_
   show AV.bool _=AV.bool _
   simp
theorem lN (R:Res)[Tab LT R](g:R.σ):Does Tryd.prog R 15 [] [] g (.ret (.bool true)) [] g:=by
 have hD:∀(R:Res) [Tab LT R] (g:R.σ),Does Tryd.prog R 17 [ay tA] [] g (.ret (.tup 3 (nth [aJ (aA (am tA).1),ap (ew tA (am tA).2),.int .i64 0]))) [] g:=fun R _ g=>xE R tA lM g
 have hW:∀(R:Res) [Tab LT R] (g:R.σ),Does Tryd.prog R 23 [ay tA,aJ tT] [] g (.ret (.tup 2 (nth [.int .i64 0,.int .i64 7]))) [] g:=fun R _ g=>yb R tA tT lM (by decide) (by decide) zu g
 have hO:∀(R:Res) [Tab LT R] (g:R.σ),Does Tryd.prog R 31 [ay tA] [] g (.ret (.tup 2 (nth [dv 4 (fun i=>ao ((cE tA).getD i 0)),.int .i64 0]))) [] g:=fun R _ g=>by
  have h:=zg R tA lM g
  rw[show(cE tA).length=4 by rw[sP];rfl] at h
  exact h
 have hN:∀(R:Res) [Tab LT R] (g:R.σ),Does Tryd.prog R 25 [ay tA,.int .i64 1] [] g (.ret (.tup 3 (nth [.int .i64 2,aJ (cF (hgP tA 1) (aS (hgP tA 1) tA.rules.l 0) (am (aE tA (hgP tA 1))).1),.int .i64 0]))) [] g:=fun R _ g=>by
  have h:=rJ R tA 1 lM (by decide) g
  rw[show(1:Int).toNat=1 from rfl,zq] at h
  exact h
 have hT:∀(R:Res) [Tab LT R] (g:R.σ),Does Tryd.prog R 27 [ay tB,.int .i64 9] [] g (.ret (.tup 2 (nth [dv 2 (fun i=>ao ((stP tB 9).getD i 0)),.int .i64 0]))) [] g:=fun R _ g=>by
  have h:=zm R tB 9 zo (by decide) zt g
  rw[show(stP tB 9).length=2 by rw[sQ];rfl] at h
  exact h
 have hS1:∀(R:Res) (hp:List AObj) (g:R.σ),Does Tryd.prog R 20 [aJ (aA (am tA).1),aJ tS] hp g (.ret (.bool true)) hp g:=fun R hp g=>by
  have h:=nq R (aA (am tA).1) tS hp g (by rw[lq,zp];decide) zw
  rw[decide_eq_true zv] at h
  exact h
 have hV1:∀(R:Res) (hp:List AObj) (g:R.σ),Does Tryd.prog R 21 [ap (ew tA (am tA).2),ap tV] hp g (.ret (.bool true)) hp g:=fun R hp g=>by
  have h:=wk R (ew tA (am tA).2) tV hp g (by rw[sO];decide)
  rw[decide_eq_true (show(ew tA (am tA).2).l=tV.l from sO)] at h
  exact h
 have hL1:∀(R:Res) (hp:List AObj) (g:R.σ),Does Tryd.prog R 29 [dv 4 (fun i=>ao ((cE tA).getD i 0)),lsX 4 tO] hp g (.ret (.bool true)) hp g:=fun R hp g=>sS R 4 _ _ hp g (by decide) (fun i hi=>by
  rw[sP]
  match i,hi with
  |0,_=>exact of_decide_eq_true (by kernel_rfl)
  |1,_=>exact of_decide_eq_true (by kernel_rfl)
  |2,_=>exact of_decide_eq_true (by kernel_rfl)
  |3,_=>exact of_decide_eq_true (by kernel_rfl)) (fun i=>sR)
 have hL2:∀(R:Res) (hp:List AObj) (g:R.σ),Does Tryd.prog R 29 [dv 2 (fun i=>ao ((stP tB 9).getD i 0)),lsX 2 tM] hp g (.ret (.bool true)) hp g:=fun R hp g=>sS R 2 _ _ hp g (by decide) (fun i hi=>by
  rw[sQ]
  match i,hi with
  |0,_=>exact of_decide_eq_true (by kernel_rfl)
  |1,_=>exact of_decide_eq_true (by kernel_rfl)) (fun i=>sR)
 have hS2:∀(R:Res) (hp:List AObj) (g:R.σ),Does Tryd.prog R 20 [aJ (cF (hgP tA 1) (aS (hgP tA 1) tA.rules.l 0) (am (aE tA (hgP tA 1))).1),aJ tS] hp g (.ret (.bool true)) hp g:=fun R hp g=>by
  have h:=nq R (cF (hgP tA 1) (aS (hgP tA 1) tA.rules.l 0) (am (aE tA (hgP tA 1))).1) tS hp g (of_decide_eq_true (by kernel_rfl)) zx
  rw[decide_eq_true zr] at h
  exact h
 have hA:∀(R:Res) (hp:List AObj) (g:R.σ),Does Tryd.prog R 44 [] hp g (.ret (ay tA)) hp g:=fun R hp g=>c_A R hp g
 have hB:∀(R:Res) (hp:List AObj) (g:R.σ),Does Tryd.prog R 45 [] hp g (.ret (ay tB)) hp g:=fun R hp g=>c_B R hp g
 have hC:∀(R:Res) (hp:List AObj) (g:R.σ),Does Tryd.prog R 57 [] hp g (.ret (aJ tS)) hp g:=fun R hp g=>zn R hp g
 obtain⟨n1,e1⟩:∃v,v=aJ (aA (am tA).1):=⟨_,rfl⟩
 obtain⟨n2,e2⟩:∃v,v=ap (ew tA (am tA).2):=⟨_,rfl⟩
 obtain⟨n3,e3⟩:∃v,v=dv 4 (fun i=>ao ((cE tA).getD i 0)):=⟨_,rfl⟩
 obtain⟨n4,e4⟩:∃v,v=aJ (cF (hgP tA 1) (aS (hgP tA 1) tA.rules.l 0) (am (aE tA (hgP tA 1))).1):=⟨_,rfl⟩
 obtain⟨n5,e5⟩:∃v,v=dv 2 (fun i=>ao ((stP tB 9).getD i 0)):=⟨_,rfl⟩
 simp only[<-e1,<-e2,<-e3,<-e4,<-e5] at hD hO hN hT hS1 hV1 hL1 hL2 hS2
 obtain⟨a,ha⟩:∃v,v=tA:=⟨_,rfl⟩
 obtain⟨b,hb⟩:∃v,v=tB:=⟨_,rfl⟩
 obtain⟨s,hs⟩:∃v,v=tS:=⟨_,rfl⟩
 obtain⟨t,ht⟩:∃v,v=tT:=⟨_,rfl⟩
 obtain⟨v,hv⟩:∃v,v=tV:=⟨_,rfl⟩
 rw[<-ha] at hA hD hW hO hN
 rw[<-hb] at hB hT
 rw[<-hs] at hC hS1 hS2
 rw[<-ht] at hW
 rw[<-hv] at hV1
 obtain⟨o1,w1⟩:∃v,v=tO1:=⟨_,rfl⟩
 obtain⟨o2,w2⟩:∃v,v=tO2:=⟨_,rfl⟩
 obtain⟨o3,w3⟩:∃v,v=tO3:=⟨_,rfl⟩
 obtain⟨o4,w4⟩:∃v,v=tO4:=⟨_,rfl⟩
 obtain⟨m1,w5⟩:∃v,v=tM1:=⟨_,rfl⟩
 obtain⟨m2,w6⟩:∃v,v=tM2:=⟨_,rfl⟩
 obtain⟨q1,w7⟩:∃v,v=tO:=⟨_,rfl⟩
 obtain⟨q2,w8⟩:∃v,v=tM:=⟨_,rfl⟩
 rw[<-w7] at hL1
 rw[<-w8] at hL2
 refine az (nt:=97) (rs:=[.tmp 0]) (k0:=0) (by kernel_rfl) (by kernel_rfl) (by kernel_rfl) rfl ?_
 refine vcQ [[1,1,1,1,1,1,0,1,0]] (lkL [(1,[1,2,3]),(2,[1,2,3,4,5]),(3,[1,2,3,4,5,6,7]),(4,[1,2,3,4,5,6,7,8,9,10]),(5,[1,2,3,4,5,6,7,8,9,10,11,12]),(6,[1,2,4,6,8,9,11,59]),(8,[0])]) (lkL [(1,[(0,ROrc.pcall (ay a)),(1,ROrc.kcall (tup 3 (nth [n1,n2,int i64 0])))]),(2,[(0,ROrc.pcall (ay a)),(1,ROrc.pcall (aJ s)),(2,ROrc.kop (aJ t)),(3,ROrc.kcall (tup 2 (nth [int i64 0,int i64 7])))]),(3,[(0,ROrc.pcall (ay a)),(1,ROrc.kcall (tup 2 (nth [n3,int i64 0])))]),(4,[(0,ROrc.pcall (ay a)),(1,ROrc.kcall (tup 3 (nth [int i64 2,n4,int i64 0])))]),(5,[(0,ROrc.pcall (ay b)),(1,ROrc.kcall (tup 2 (nth [n5,int i64 0])))]),(8,[(1,ROrc.pcall (aJ s)),(2,ROrc.pcall (AV.bool true)),(5,ROrc.kop (ap v)),(6,ROrc.pcall (AV.bool true)),(14,ROrc.kop (ap o1)),(15,ROrc.kop (ap o2)),(16,ROrc.kop (ap o3)),(17,ROrc.kop (ap o4)),(18,ROrc.kop (lsX 4 q1)),(19,ROrc.pcall (AV.bool true)),(27,ROrc.pcall (aJ s)),(28,ROrc.pcall (AV.bool true)),(32,ROrc.kop (ap m1)),(33,ROrc.kop (ap m2)),(34,ROrc.kop (lsX 2 q2)),(35,ROrc.pcall (AV.bool true))])]) (fun Q=>(fun (u1:List Row)=>(fun (u2:List Row)=>(fun (u3:List (Nat × AV))=>(fun (u4:List Row)=>(fun (u5:Operand)=>(fun (u6:Nat × Bool)=>(fun (u7:List Edge)=>(fun (u8:Operand)=>(fun (u9:List Row)=>(fun (u10:Operand)=>(fun (u11:List Row)=>(∀(hp:List AObj) (g:R.σ),true=true/\Does Tryd.prog R 44 [] hp g (ret (ay a)) hp g)/\(true=true/\Does Tryd.prog R 17 [ay a] [] g (ret (tup 3 (nth [n1,n2,int i64 0]))) [] g)/\(∀(hp:List AObj) (g:R.σ),true=true/\Does Tryd.prog R 44 [] hp g (ret (ay a)) hp g)/\(∀(hp:List AObj) (g:R.σ),true=true/\Does Tryd.prog R 57 [] hp g (ret (aJ s)) hp g)/\OpOk Tryd.prog R (Oper.mk (some 22) (Op.slice 29 (Operand.tmp 21) (some u5) none none) 29 "law.go:36" #[Edge.mk 1 Ground.data] none) (evO [Row.mk (some 21) none (aJ s) false (some []) [],Row.mk (some 20) none (ay a) false (some []) []] [(1,n1),(2,n2),(3,int i64 0)] []) [] g (aJ t) [] g/\(true=true/\Does Tryd.prog R 23 [ay a,aJ t] [] g (ret (tup 2 (nth [int i64 0,int i64 7]))) [] g)/\(∀(hp:List AObj) (g:R.σ),true=true/\Does Tryd.prog R 44 [] hp g (ret (ay a)) hp g)/\(true=true/\Does Tryd.prog R 31 [ay a] [] g (ret (tup 2 (nth [n3,int i64 0]))) [] g)/\(∀(hp:List AObj) (g:R.σ),true=true/\Does Tryd.prog R 44 [] hp g (ret (ay a)) hp g)/\(true=true/\Does Tryd.prog R 25 [ay a,int i64 1] [] g (ret (tup 3 (nth [int i64 2,n4,int i64 0]))) [] g)/\(∀(hp:List AObj) (g:R.σ),true=true/\Does Tryd.prog R 45 [] hp g (ret (ay b)) hp g)/\(true=true/\Does Tryd.prog R 27 [ay b,int i64 9] [] g (ret (tup 2 (nth [n5,int i64 0]))) [] g)/\(false=true->Wp Tryd.prog R 97 0 Rd.top (af Tryd.prog 15) [1,1,1,1,1,1,0,1,0] (aq Tryd.prog R 97 0 Rd.top (af Tryd.prog 15) Q [Kont.seq [1,1,1,1,1,1,1]]) (St.mk u3 [] g))/\(false=false->(∀(hp:List AObj) (g:R.σ),true=true/\Does Tryd.prog R 57 [] hp g (ret (aJ s)) hp g)/\(∀(hp:List AObj) (g:R.σ),true=true/\Does Tryd.prog R 20 [n1,aJ s] hp g (ret (AV.bool true)) hp g)/\(true=true->OpOk Tryd.prog R (Oper.mk (some 65) (Op.buildSlice 33 6 #[(0,u5),(1,u5),(2,u8),(3,u8),(4,u10),(5,u10)]) 33 "law.go:43" #[Edge.mk 3 Ground.guard] (some (3,true))) (evO [Row.mk (some 64) (some (3,true)) n2 false (some []) [],Row.mk (some 63) none (AV.bool true) false (some []) [],Row.mk (some 62) none (AV.bool true) false (some []) [],Row.mk (some 61) none (aJ s) false (some []) [],Row.mk (some 60) none n1 false (some []) []] u3 [(3,true)]) [] g (ap v) [] g)/\(true=true->∀(hp:List AObj) (g:R.σ),true=true/\Does Tryd.prog R 21 [n2,ap v] hp g (ret (AV.bool true)) hp g)/\(true=true->OpOk Tryd.prog R (Oper.mk (some 74) (Op.buildSlice 53 1 #[(0,Operand.const (Value.int i64 0))]) 53 "law.go:43" (List.toArray u7) (some u6)) (evO u1 u3 [u6]) [] g (ap o1) [] g)/\(true=true->OpOk Tryd.prog R (Oper.mk (some 75) (Op.buildSlice 53 2 #[(0,u5),(1,u10)]) 53 "law.go:43" (List.toArray u7) (some u6)) (evO (Row.mk (some 74) (some u6) (ap o1) true (some []) []::u1) u3 [u6]) [] g (ap o2) [] g)/\(true=true->OpOk Tryd.prog R (Oper.mk (some 76) (Op.buildSlice 53 1 #[(0,u8)]) 53 "law.go:43" (List.toArray u7) (some u6)) (evO u4 u3 [u6]) [] g (ap o3) [] g)/\(true=true->OpOk Tryd.prog R (Oper.mk (some 77) (Op.buildSlice 53 2 #[(0,Operand.const (Value.int i64 4)),(1,Operand.const (Value.int i64 5))]) 53 "law.go:43" (List.toArray u7) (some u6)) (evO u11 u3 [u6]) [] g (ap o4) [] g)/\(true=true->OpOk Tryd.prog R (Oper.mk (some 78) (Op.buildSlice 49 4 #[(0,Operand.tmp 74),(1,Operand.tmp 75),(2,Operand.tmp 76),(3,Operand.tmp 77)]) 49 "law.go:43" (List.toArray (Edge.mk 14 Ground.data::Edge.mk 15 Ground.data::Edge.mk 16 Ground.data::Edge.mk 17 Ground.data::u7)) (some u6)) (evO (Row.mk (some 77) (some u6) (ap o4) true (some []) []::u11) u3 [u6]) [] g (fz Fz.exa 1 4 fun (i x:Nat)=>ap (q1 i)) [] g)/\(true=true->∀(hp:List AObj) (g:R.σ),true=true/\Does Tryd.prog R 29 [n3,fz Fz.exa 1 4 fun (i x:Nat)=>ap (q1 i)] hp g (ret (AV.bool true)) hp g)/\(true=true->∀(hp:List AObj) (g:R.σ),true=true/\Does Tryd.prog R 57 [] hp g (ret (aJ s)) hp g)/\(true=true->∀(hp:List AObj) (g:R.σ),true=true/\Does Tryd.prog R 20 [n4,aJ s] hp g (ret (AV.bool true)) hp g)/\(true=true->OpOk Tryd.prog R (Oper.mk (some 92) (Op.buildSlice 53 2 #[(0,u8),(1,u5)]) 53 "law.go:43" #[Edge.mk 30 Ground.guard] (some (30,true))) (evO u2 u3 [(30,true)]) [] g (ap m1) [] g)/\(true=true->OpOk Tryd.prog R (Oper.mk (some 93) (Op.buildSlice 53 2 #[(0,Operand.const (Value.int i64 0)),(1,u5)]) 53 "law.go:43" #[Edge.mk 30 Ground.guard] (some (30,true))) (evO u9 u3 [(30,true)]) [] g (ap m2) [] g)/\(true=true->OpOk Tryd.prog R (Oper.mk (some 94) (Op.buildSlice 49 2 #[(0,Operand.tmp 92),(1,Operand.tmp 93)]) 49 "law.go:43" #[Edge.mk 32 Ground.data,Edge.mk 33 Ground.data,Edge.mk 30 Ground.guard] (some (30,true))) (evO (Row.mk (some 93) (some (30,true)) (ap m2) true (some []) []::u9) u3 [(30,true)]) [] g (fz Fz.exa 1 2 fun (i x:Nat)=>ap (q2 i)) [] g)/\(true=true->∀(hp:List AObj) (g:R.σ),true=true/\Does Tryd.prog R 29 [n5,fz Fz.exa 1 2 fun (i x:Nat)=>ap (q2 i)] hp g (ret (AV.bool true)) hp g)/\Q AEx.ret (St.mk [(0,AV.bool true)] [] g))) (Row.mk (some 76) (some u6) (ap o3) true (some []) []::u4)) (Operand.const (Value.int i64 3))) (Row.mk (some 92) (some (30,true)) (ap m1) true (some []) []::u2)) (Operand.const (Value.int i64 1))) ([Edge.mk 12 Ground.guard])) ((12,true))) (Operand.const (Value.int i64 2))) (Row.mk (some 75) (some (12,true)) (ap o2) true (some []) []::Row.mk (some 74) (some (12,true)) (ap o1) true (some []) []::u1)) ([(1,n1),(2,n2),(4,int i64 0),(6,n3),(8,int i64 2),(9,n4),(11,n5),(59,AV.bool false)])) (Row.mk (some 91) (some (30,true)) n5 false (some []) []::Row.mk (some 90) none (AV.bool true) false (some []) []::Row.mk (some 89) none (AV.bool true) false (some []) []::Row.mk (some 88) (some (25,true)) (AV.bool true) false (some []) []::Row.mk (some 87) (some (25,true)) (aJ s) false (some []) []::Row.mk (some 86) (some (25,true)) n4 false (some []) []::Row.mk (some 85) none (AV.bool true) false (some []) []::Row.mk (some 84) none (AV.bool true) false (some []) []::Row.mk (some 83) (some (21,true)) (AV.bool true) false (some []) []::Row.mk (some 82) (some (21,true)) (int i64 2) false (some []) []::Row.mk (some 81) none (AV.bool true) false (some []) []::Row.mk (some 80) none (AV.bool true) false (some []) []::Row.mk (some 79) (some (12,true)) (AV.bool true) false (some []) []::Row.mk (some 78) (some (12,true)) (fz Fz.exa 1 4 fun (i x:Nat)=>ap (q1 i)) true (some []) []::Row.mk (some 77) (some (12,true)) (ap o4) true (some []) []::Row.mk (some 76) (some (12,true)) (ap o3) true (some []) []::Row.mk (some 75) (some (12,true)) (ap o2) true (some []) []::Row.mk (some 74) (some (12,true)) (ap o1) true (some []) []::u1)) ([Row.mk (some 73) (some (12,true)) n3 false (some []) [],Row.mk (some 72) none (AV.bool true) false (some []) [],Row.mk (some 71) none (AV.bool true) false (some []) [],Row.mk (some 70) (some (8,true)) (AV.bool true) false (some []) [],Row.mk (some 69) (some (8,true)) (int i64 0) false (some []) [],Row.mk (some 68) none (AV.bool true) false (some []) [],Row.mk (some 67) none (AV.bool true) false (some []) [],Row.mk (some 66) (some (3,true)) (AV.bool true) false (some []) [],Row.mk (some 65) (some (3,true)) (ap v) true (some []) [],Row.mk (some 64) (some (3,true)) n2 false (some []) [],Row.mk (some 63) none (AV.bool true) false (some []) [],Row.mk (some 62) none (AV.bool true) false (some []) [],Row.mk (some 61) none (aJ s) false (some []) [],Row.mk (some 60) none n1 false (some []) []])) (fun _=>by kernel_rfl) ⟨(fun _ _=>⟨rfl,(hA _ _ _)⟩),⟨rfl,(hD _ _)⟩,(fun _ _=>⟨rfl,(hA _ _ _)⟩),(fun _ _=>⟨rfl,(hC _ _ _)⟩),?_,⟨rfl,(hW _ _)⟩,(fun _ _=>⟨rfl,(hA _ _ _)⟩),⟨rfl,(hO _ _)⟩,(fun _ _=>⟨rfl,(hA _ _ _)⟩),⟨rfl,(hN _ _)⟩,(fun _ _=>⟨rfl,(hB _ _ _)⟩),⟨rfl,(hT _ _)⟩,fun h=>(nomatch h),fun _=>⟨(fun _ _=>⟨rfl,(hC _ _ _)⟩),(fun _ _=>⟨rfl,(hS1 _ _ _)⟩),?_,(fun hgd=>(fun _ _=>⟨rfl,(hV1 _ _ _)⟩)),?_,?_,?_,?_,?_,(fun hgd=>(fun _ _=>⟨rfl,(hL1 _ _ _)⟩)),(fun hgd=>(fun _ _=>⟨rfl,(hC _ _ _)⟩)),(fun hgd=>(fun _ _=>⟨rfl,(hS2 _ _ _)⟩)),?_,?_,?_,(fun hgd=>(fun _ _=>⟨rfl,(hL2 _ _ _)⟩)),?_⟩⟩
 ·subst hs ht
  exact m5 rfl (by exact⟨Nat.le_refl _,⟨by decide,by decide⟩,trivial⟩) (mK rfl (fun i j hi hj=>match i,hi with|0,_=>rfl))
 ·intro _;subst hv;exact cj (n:=6) (es:=1) (by kernel_rfl) (by exact⟨trivial,trivial,trivial,trivial,trivial,trivial,trivial⟩) rfl rfl (fun i hi j hj=>match i,hi,j,hj with|0,_,0,_=>(by kernel_rfl)|1,_,0,_=>(by kernel_rfl)|2,_,0,_=>(by kernel_rfl)|3,_,0,_=>(by kernel_rfl)|4,_,0,_=>(by kernel_rfl)|5,_,0,_=>(by kernel_rfl) ) (fun i hi j hj=>match i,hi,j,hj with|0,_,0,_=>trivial|1,_,0,_=>trivial|2,_,0,_=>trivial|3,_,0,_=>trivial|4,_,0,_=>trivial|5,_,0,_=>trivial )
 ·intro _;subst w1;exact cj (n:=1) (es:=1) (by kernel_rfl) (by exact⟨trivial,trivial⟩) rfl rfl (fun i hi j hj=>match i,hi,j,hj with|0,_,0,_=>(by kernel_rfl) ) (fun i hi j hj=>match i,hi,j,hj with|0,_,0,_=>trivial )
 ·intro _;subst w2;exact cj (n:=2) (es:=1) (by kernel_rfl) (by exact⟨trivial,trivial,trivial⟩) rfl rfl (fun i hi j hj=>match i,hi,j,hj with|0,_,0,_=>(by kernel_rfl)|1,_,0,_=>(by kernel_rfl) ) (fun i hi j hj=>match i,hi,j,hj with|0,_,0,_=>trivial|1,_,0,_=>trivial )
 ·intro _;subst w3;exact cj (n:=1) (es:=1) (by kernel_rfl) (by exact⟨trivial,trivial⟩) rfl rfl (fun i hi j hj=>match i,hi,j,hj with|0,_,0,_=>(by kernel_rfl) ) (fun i hi j hj=>match i,hi,j,hj with|0,_,0,_=>trivial )
 ·intro _;subst w4;exact cj (n:=2) (es:=1) (by kernel_rfl) (by exact⟨trivial,trivial,trivial⟩) rfl rfl (fun i hi j hj=>match i,hi,j,hj with|0,_,0,_=>(by kernel_rfl)|1,_,0,_=>(by kernel_rfl) ) (fun i hi j hj=>match i,hi,j,hj with|0,_,0,_=>trivial|1,_,0,_=>trivial )
 ·intro _;subst w1 w2 w3 w4 w7;exact cj (n:=4) (es:=1) (by kernel_rfl) (by exact⟨trivial,trivial,trivial,trivial,trivial⟩) rfl rfl (fun i hi j hj=>match i,hi,j,hj with|0,_,0,_=>(by kernel_rfl)|1,_,0,_=>(by kernel_rfl)|2,_,0,_=>(by kernel_rfl)|3,_,0,_=>(by kernel_rfl) ) (fun i hi j hj=>match i,hi,j,hj with|0,_,0,_=>trivial|1,_,0,_=>trivial|2,_,0,_=>trivial|3,_,0,_=>trivial )
 ·intro _;subst w5;exact cj (n:=2) (es:=1) (by kernel_rfl) (by exact⟨trivial,trivial,trivial⟩) rfl rfl (fun i hi j hj=>match i,hi,j,hj with|0,_,0,_=>(by kernel_rfl)|1,_,0,_=>(by kernel_rfl) ) (fun i hi j hj=>match i,hi,j,hj with|0,_,0,_=>trivial|1,_,0,_=>trivial )
 ·intro _;subst w6;exact cj (n:=2) (es:=1) (by kernel_rfl) (by exact⟨trivial,trivial,trivial⟩) rfl rfl (fun i hi j hj=>match i,hi,j,hj with|0,_,0,_=>(by kernel_rfl)|1,_,0,_=>(by kernel_rfl) ) (fun i hi j hj=>match i,hi,j,hj with|0,_,0,_=>trivial|1,_,0,_=>trivial )
 ·intro _;subst w5 w6 w8;exact cj (n:=2) (es:=1) (by kernel_rfl) (by exact⟨trivial,trivial,trivial⟩) rfl rfl (fun i hi j hj=>match i,hi,j,hj with|0,_,0,_=>(by kernel_rfl)|1,_,0,_=>(by kernel_rfl) ) (fun i hi j hj=>match i,hi,j,hj with|0,_,0,_=>trivial|1,_,0,_=>trivial )
 ·refine(ax (bj _ _ rfl trivial rfl rfl rfl) (Le.refl _))
def sT {U:Type}(x:Fz × List U):KL U:=⟨x.2,x.1⟩
theorem zy:Rea Tryd.prog 77 2 (fun _:Lit=>True) iA:=
 Rea.map (mY Tryd.underlying77 (by kernel_rfl) (iy rfl (by kernel_rfl) (kG Tryd.underlying3) (iy rfl (by kernel_rfl) (vx Tryd.underlying4) mX)))
  (fun x:Int × Bool × Unit=>⟨x.1,x.2.1⟩) (fun _ _=>trivial) (fun x j hj=>match j,hj with|0,_=>rfl|1,_=>rfl)
theorem zz:Rea Tryd.prog 73 1 (fun _:KL Lit=>True) (fun x _=>al x):=
 Rea.map (qd Tryd.underlying73 (by kernel_rfl) (by omega) zy) sT (fun _ _=>trivial) (fun x j hj=>rfl)
theorem zA:Rea Tryd.prog 75 2 (fun _:Rule=>True) bJ:=by
 have h:=mY (n:=2) Tryd.underlying75 (by kernel_rfl) (iy rfl (m:=1) (by kernel_rfl) (kG Tryd.underlying3) (iy rfl (m:=1) (by kernel_rfl) zz mX))
 exact h.map (fun x=>⟨x.1,x.2.1⟩) (fun _ _=>trivial) (fun x j hj=>match j,hj with|0,_=>rfl|1,_=>rfl)
theorem zB:Rea Tryd.prog 22 1 (fun _:KL Rule=>True) (fun x _=>ae x):=
 Rea.map (qd Tryd.underlying22 (by kernel_rfl) (by omega) zA) sT (fun _ _=>trivial) (fun x j hj=>rfl)
theorem zC:Rea Tryd.prog 24 2 (fun _:Prg=>True) (fun p=>nth [.int .i64 p.atoms,ae p.rules]):=by
 have h:=mY (n:=2) Tryd.underlying24 (by kernel_rfl) (iy rfl (m:=1) (by kernel_rfl) (kG Tryd.underlying3) (iy rfl (m:=1) (by kernel_rfl) zB mX))
 exact h.map (fun x=>⟨x.1,x.2.1⟩) (fun _ _=>trivial) (fun x j hj=>match j,hj with|0,_=>rfl|1,_=>rfl)
theorem zD:Arg Tryd.prog 24 (fun _:Prg=>True) ay:=vC Tryd.underlying24 zC
def sU (n:Int):AV:=.int .i64 n
theorem zE:Arg Tryd.prog 3 (fun _:Int=>True) sU:=
 vB Tryd.underlying3 (Rea.map (kG Tryd.underlying3) (fun n:Int=>n) (fun _ _=>trivial) (fun _ _ _=>rfl))
structure OrdAll (p:Prg)(n left:Nat)(L:List Nat):Prop where
 is:∀i,i<L.length->∃A,A<n/\L.getD i 0=aB p A
 cov:∀a,left.testBit a=true->∃i,i<L.length/\(L.getD i 0).testBit a=true
 sub:∀i a,i<L.length->(L.getD i 0).testBit a=true->left.testBit a=true
 ord:∀i j a b,i<j->j<L.length->(L.getD i 0).testBit a=true->(L.getD j 0).testBit b=true->¬Reach p a b
structure CompOk (p:Prg)(n:Nat)(L:List Nat)(v:List Int):Prop where
 len:v.length=n
 at_:∀a,a<n->0<=v.getD a 0/\v.getD a 0<L.length
 up:∀a b,a<n->Reach p a b->b<n/\v.getD b 0<=v.getD a 0
 same:∀a b,a<n->(L.getD (v.getD a 0).toNat 0).testBit b=true->Reach p a b
def bi (on:Nat)(nums:List Int)(l:List Stp):Nat->List Stp
 |0=>[]
 |i+1=>if 0<(aH on (l.getD i default).atoms).length then bi on nums l i++[⟨d7 nums (l.getD i default),aH on (l.getD i default).atoms⟩] else bi on nums l i
theorem sV {on:Nat}{nums:List Int}{l:List Stp}:∀{i:Nat},(bi on nums l i).length<=i
 |0=>Nat.le_refl _
 |i+1=>by
  show(if 0<(aH on (l.getD i default).atoms).length then _ else _:List Stp).length<=_
  have:=sV (on:=on) (nums:=nums) (l:=l) (i:=i)
  split
  ·rw[List.length_append,List.length_singleton];omega
  ·omega
theorem sW {on:Nat}{nums:List Int}{l:List Stp}:∀{i:Nat},bi on nums l i=(aZ on l i).map (fun k=>⟨d7 nums (l.getD k default),aH on (l.getD k default).atoms⟩)
 |0=>rfl
 |i+1=>by
  show(if 0<(aH on (l.getD i default).atoms).length then _ else _:List Stp)=_
  rw[jO,sW]
  split
  ·rw[List.map_append];rfl
  ·rfl
theorem zF {on:Nat}{l:List Int}{k:Nat}(h:k<l.length):aH on (l.take (k+1))=if on.testBit (l.getD k 0).toNat then aH on (l.take k)++[l.getD k 0] else aH on (l.take k):=by
 unfold aH
 rw[List.take_add_one,List.filter_append,List.getElem?_eq_getElem h,List.getD_eq_getElem?_getD,List.getElem?_eq_getElem h]
 show _=if on.testBit l[k].toNat=true then _++[l[k]] else _
 cases hb:on.testBit l[k].toNat <;> simp[hb]
theorem sX {p:Prg}:∀{f:Nat} {v:List Int} {l:List Stp},(∀s,s∈l->s.rule = -1∨0<=s.rule)->∀s,s∈(eA p f v l).1->s.rule = -1∨0<=s.rule
 |0,_,_,h=>h
 |f+1,v,l,h=>by
  show ∀s,s∈(if cv v p then eA p f (ey v (bV (bf v p))) (l++[bf v p]) else(l,v)).1->_
  split
  ·refine sX (fun s hs=>?_)
   rcases List.mem_append.1 hs with hs|hs
   ·exact h s hs
   ·rw[List.mem_singleton.1 hs]
    unfold bf
    split
    ·rename_i h0;exact .inr h0
    ·exact .inl rfl
  ·exact h
theorem zG {p:Prg}{n:Nat}:∀s,s∈(bI p n).1->s.rule = -1∨0<=s.rule:=sX (fun s hs=>by cases hs)
theorem zH (R:Res)(p:Prg)(a:Nat)(hb:aR p=true)(ha:a<p.atoms.toNat)(g:R.σ):Does Tryd.prog R 26 [ay p,.int .i64 a] [] g (.ret (.tup 2 (nth [.int .i64 ((bI (aE p (hgP p a)) p.atoms.toNat).2.getD a 0),aJ (aA (bi (hgP p a) (aS (hgP p a) p.rules.l 0) (bI (aE p (hgP p a)) p.atoms.toNat).1 (bI (aE p (hgP p a)) p.atoms.toNat).1.length))]))) [] g:=by
 have hroom:aG=140737488355328:=rfl
 obtain⟨hl,hr,hp,hh,hx⟩:=ff hb
 have hp':1<=p.atoms/\p.atoms<=24:=hp
 have hrn:=sN hb
 obtain⟨n,hn⟩:∃n,p.atoms.toNat=n:=⟨_,rfl⟩
 rw[hn] at hrn ha ⊢
 have hpa:p.atoms=n:=by omega
 have hH:=fun (R:Res) (g:R.σ)=>y9 R p n a (by omega) ha hpa hl hrn g
 have hbl:(hgR p n a).length=n:=ou (fun r h=>(hrn r h).1)
 have hbit:=y7 hr hrn ha (by omega)
 obtain⟨bs,hbs⟩:∃bs,hgR p n a=bs:=⟨_,rfl⟩
 obtain⟨on,hon⟩:∃on,hgP p a=on:=⟨_,rfl⟩
 rw[hbs] at hH hbl hbit
 rw[hon] at hbit ⊢
 refine az (nt:=126) (rs:=[.tmp 4,.tmp 5]) (k0:=0) (by kernel_rfl) (by kernel_rfl) (by kernel_rfl) rfl ?_
 refine vcQ [] (lkL [(0,[1,2]),(1,[1,2,6]),(2,[1,2,6,7]),(3,[1,2,6,7,8]),(4,[1,2,6,7,8,9])]) (lkL [(1,[(2,ROrc.kcall (fz Fz.auto 1 (bs.length) fun (i x:Nat)=>aF bs i))]),(2,[(4,ROrc.val (Orc.obj (nth [int i64 p.atoms,fz Fz.nil 0 0 fun _ _=>any])))])]) (fun Q=>(fun (u1:AV)=>(fun (u2:AObj)=>(fun (u3:AV)=>2<=2/\(true=true/\Does Tryd.prog R 74 [ay p,int i64 (a:Int)] [u2] g (ret u3) [u2] g)/\1<=2/\2<=2/\(∀(c:Nat),c<2->nth [int i64 p.atoms,u1] c=ah (nth [int i64 0,u1]) 0 2 (List.brecOn (motive:=fun (x:List AV)=>Nat->AV) [int i64 p.atoms,u1] nth._f) c)/\Wp Tryd.prog R 126 0 Rd.top (af Tryd.prog 26) [1,1,1,1,0,1,0] (aq Tryd.prog R 126 0 Rd.top (af Tryd.prog 26) Q [Kont.blk 0,Kont.seq [1,1,1,1,1]]) (St.mk [(1,int i64 (a:Int)),(2,ref 0 0),(6,u3),(7,ref 1 0),(8,u1),(9,int i64 0)] [u2,cells false 2 (nth [int i64 p.atoms,u1])] g)) (fz Fz.auto 1 (bs.length) fun (i x:Nat)=>aF bs i)) (cells false 2 (nth [int i64 p.atoms,ae p.rules]))) (fz Fz.nil 0 0 fun _ _=>any)) (fun _=>by kernel_rfl) ⟨by omega,⟨rfl,(bz [] 1 (fun R g=>hH R g) rfl rfl rfl (by exact trivial) (by exact trivial) (by exact⟨au (by exact⟨⟨trivial,trivial⟩,trivial⟩),au (by exact trivial),trivial⟩) (by exact aw (by exact trivial)) (by exact⟨LeO.rflc,trivial⟩))⟩,by omega,by omega,(fun c hc=>match c,hc with|0,_=>(by kernel_rfl)|1,_=>(by kernel_rfl) ),?_⟩
 refine bQ (eq (fun _=>.any) 2) ?_
 refine(bg (by kernel_rfl) (fun (x:Nat × Nat)=>⟨[(1,int i64 (a:Int)),(2,ref 0 0),(6,fz Fz.auto 1 (bs.length) fun (i x:Nat)=>aF bs i),(7,ref 1 0),(8,.ow true 3 x.2 1),(9,.int .i64 x.1)],[.cells false 2 (nth [.int .i64 p.atoms,ae p.rules]),.cells false 2 (nth [.int .i64 p.atoms,.ow true 2 x.2 2]),.cells false (x.2*2) (ba (aI on (p.rules.l.take x.1))),.cells false (x.2*1) (ab (aS on (p.rules.l.take x.1) 0))],g⟩) (fun (x:Nat × Nat)=>(x.1<=p.rules.l.length/\x.2=(aI on (p.rules.l.take x.1)).length)) (fun (x:Nat × Nat)=>(p.rules.l.length-x.1)) ((0,0):Nat × Nat) (aX ⟨Le.refl _,Le.refl _,Le.refl _,Le.refl _,Le.nil_ow,(Le.of_eq (by kernel_rfl)),trivial⟩ ⟨LeO.rflc,⟨rfl,Nat.le_refl _,fun j hj=>match j,hj with|0,_=>(Le.refl _)|1,_=>Le.nil_ow ⟩,⟨rfl,Nat.le_refl _,fun j hj=>absurd hj (Nat.not_lt_zero j)⟩,⟨rfl,Nat.le_refl _,fun j hj=>absurd hj (Nat.not_lt_zero j)⟩,trivial⟩ rfl) ?_ (fun x hi=>?_))
 ·exact⟨Nat.zero_le _,rfl⟩
 ·obtain⟨i,m⟩:=x
  obtain⟨hi,hm⟩:=hi
  simp only at hi hm
  have hpl:=od on (p.rules.l.take i) 0
  have hple:(aI on (p.rules.l.take i)).length<=p.rules.l.length:=Nat.le_trans (List.length_filter_le _ _) (by rw[List.length_take];omega)
  rcases Nat.lt_or_ge i p.rules.l.length with hi'|hi'
  ·have hq:=hrn _ (fc hi')
   have hq2:=hq.2
   have hpt:=rB (on:=on) hi'
   have hnt:=rC (on:=on) hi'
   rw[<-hbit] at hpt hnt
   refine vcQ [] (lkL [(5,[1,2,6,7,8,9,26]),(7,[1,2,6,7,8,9,37]),(8,[1,2,6,7,8,9]),(9,[1,2,6,7,8,9]),(6,[1,2,6,7,8,9])]) (lkL [(8,[(8,ROrc.val (Orc.obj (ba (aI on (List.take i p.rules.l)++[p.rules.l.getD i default])))),(10,ROrc.val (Orc.obj (nth [int i64 p.atoms,ow true 5 (m+1) 2])))]),(9,[(3,ROrc.val (Orc.obj (ab (aS on (List.take i p.rules.l) 0++[(i:Int)]))))])]) (fun Q=>(fun (u1:List AObj)=>(fun (u2:Rule)=>(fun (u3:Int)=>(fun (u4:Int)=>(fun (u5:Nat × AV)=>(fun (u6:List Rule)=>2<=2/\(decide (u4<u3)=true->2<=2/\(0<=u4/\u4<u3)/\1<=2/\(0<=u2.head/\u2.head<(bs.length:Int))/\1<=1/\(bs.getD (u2.head.toNat) false=true->Tables.follows Tryd.prog.toTables Departure.mixedOrders=true/\2<=2/\2<=2/\(0<=u4/\u4<u3)/\2<=2/\0<2/\(m+1)*32<=aG/\m+1<=aG/\2<=2/\m*2<=m*2/\(∀(c:Nat),c<(m+1)*2->ba (aI on u6++[u2]) c=bc 2 m (fun (i j:Nat)=>ba (aI on u6) (i*2+j)) (fun (i j:Nat)=>ah (fun (j:Nat)=>nth [int i64 0,fz Fz.nil 0 0 fun _ _=>any] (j%2)) 0 2 (List.brecOn (motive:=fun (x:List AV)=>Nat->AV) [int i64 u2.head,al u2.body] nth._f) (0+i*2+j)) c)/\2<=2/\(∀(c:Nat),c<2->nth [int i64 p.atoms,ow true 5 (m+1) 2] c=ah (nth [int i64 p.atoms,ow true 2 m 2]) 1 1 (fun (x:Nat)=>ow true 5 (m+1) 2) c)/\0<1/\(m+1)*8<=aG/\m+1<=aG/\1<=1/\m*1<=m*1/\(∀(c:Nat),c<(m+1)*1->ab (aS on u6 0++[u4]) c=bc 1 m (fun (i j:Nat)=>ab (aS on u6 0) (i*1+j)) (fun (i j:Nat)=>ah (fun (j:Nat)=>int i64 0) 0 1 (fun (x:Nat)=>int i64 u4) (0+i*1+j)) c)/\(-9223372036854775808<=u4+1/\u4+1<=9223372036854775807)/\Q AEx.normal (St.mk [(1,int i64 (a:Int)),(2,ref 0 0),u5,(7,ref 1 0),(8,ow true 7 (m+1) 1),(9,int i64 (u4+1))] [cells false 2 (nth [int i64 p.atoms,ae p.rules]),cells false 2 (nth [int i64 p.atoms,ow true 5 (m+1) 2]),dead,dead,cells false 2 (ah (fun (j:Nat)=>nth [int i64 0,fz Fz.nil 0 0 fun _ _=>any] (j%2)) 0 2 (List.brecOn (motive:=fun (x:List AV)=>Nat->AV) [int i64 u2.head,al u2.body] nth._f)),cells false ((m+1)*2) (ba (aI on u6++[u2])),cells false 1 (ah (fun (j:Nat)=>int i64 0) 0 1 fun (x:Nat)=>int i64 u4),cells false ((m+1)*1) fun (a:Nat)=>ab (aS on u6 0++[u4]) a] g))/\(bs.getD (u2.head.toNat) false=false->(-9223372036854775808<=u4+1/\u4+1<=9223372036854775807)/\Q AEx.normal (St.mk [(1,int i64 (a:Int)),(2,ref 0 0),u5,(7,ref 1 0),(8,ow true 3 m 1),(9,int i64 (u4+1))] u1 g)))/\(decide (u4<u3)=false->Q (AEx.exit 0) (St.mk [(1,int i64 (a:Int)),(2,ref 0 0),u5,(7,ref 1 0),(8,ow true 3 m 1),(9,int i64 u4),(26,AV.bool (decide (u4<u3)))] u1 g))) (List.take i p.rules.l)) ((6,fz Fz.auto 1 (bs.length) fun (i x:Nat)=>aF bs i))) ((i:Int))) ((p.rules.l.length:Int))) (p.rules.l.getD i default)) ([cells false 2 (nth [int i64 p.atoms,ae p.rules]),cells false 2 (nth [int i64 p.atoms,ow true 2 m 2]),cells false (m*2) (ba (aI on (List.take i p.rules.l))),cells false (m*1) fun (a:Nat)=>ab (aS on (List.take i p.rules.l) 0) a])) (fun _=>by kernel_rfl) ⟨by omega,fun c1=>have c1:(i:Int)<(p.rules.l.length:Int):=(of_decide_eq_true c1);⟨by omega,by omega,by omega,by omega,by omega,fun c2=>⟨by kernel_rfl,by omega,by omega,by omega,by omega,by omega,by omega,by omega,by omega,by omega,?_,by omega,(fun c hc=>match c,hc with|0,_=>(by kernel_rfl)|1,_=>(by kernel_rfl) ),by omega,by omega,by omega,by omega,by omega,?_,by omega,?_⟩,fun c2=>⟨by omega,?_⟩⟩,fun c1=>have c1:¬(i:Int)<(p.rules.l.length:Int):=(of_decide_eq_false c1);?_⟩
   ·intro c hc
    subst hm
    exact(nE (r:=p.rules.l.getD i default) (z:=fun j=>nth [.int .i64 0,.fz .nil 0 0 fun _ _=>.any] (j%2)) hc).trans (by kernel_rfl)
   ·intro c hc
    rw[hm,<-hpl] at hc ⊢
    exact(lu (z:=fun _=>.int .i64 0) hc).trans (by kernel_rfl)
   ·rw[if_pos c2] at hpt hnt
    refine(aL (i+1,m+1) (a9 [0,1,5,7] 8 rfl rfl rfl rfl rfl ⟨Le.refl _,Le.refl _,Le.refl _,Le.refl _,Le.refl _,Le.refl _,trivial⟩ ⟨⟨rfl,Nat.le_refl _,fun j hj=>match j,hj with|0,_=>(Le.refl _)|1,_=>(Le.refl _) ⟩,⟨rfl,Nat.le_refl _,fun j hj=>match j,hj with|0,_=>(Le.refl _)|1,_=>(Le.refl _) ⟩,?_,?_,trivial⟩) ?_ ?_)
    ·show LeO (.cells false ((m+1)*2) (ba (aI on (p.rules.l.take i)++[p.rules.l.getD i default]))) (bP _ (.cells false ((m+1)*2) (ba (aI on (p.rules.l.take (i+1))))))
     rw[hpt,iF]
     exact LeO.refl _
    ·show LeO (.cells false ((m+1)*1) (ab (aS on (p.rules.l.take i) 0++[(i:Int)]))) (.cells false ((m+1)*1) (ab (aS on (p.rules.l.take (i+1)) 0)))
     rw[hnt]
     exact LeO.refl _
    ·refine⟨by show i+1<=_;omega,?_⟩
     show m+1=(aI on (p.rules.l.take (i+1))).length
     rw[hpt,List.length_append,<-hm]
     rfl
    ·show p.rules.l.length-(i+1)<p.rules.l.length-i
     omega
   ·rw[if_neg (by rw[c2];decide)] at hpt hnt
    refine(aL (i+1,m) (aX ⟨Le.refl _,Le.refl _,Le.refl _,Le.refl _,Le.refl _,(Le.of_eq (by kernel_rfl)),trivial⟩ ⟨LeO.rflc,LeO.rflc,?_,?_,trivial⟩ rfl) ?_ ?_)
    ·show LeO (.cells false (m*2) (ba (aI on (p.rules.l.take i)))) (.cells false (m*2) (ba (aI on (p.rules.l.take (i+1)))))
     rw[hpt]
     exact LeO.refl _
    ·show LeO (.cells false (m*1) (ab (aS on (p.rules.l.take i) 0))) (.cells false (m*1) (ab (aS on (p.rules.l.take (i+1)) 0)))
     rw[hnt]
     exact LeO.refl _
    ·refine⟨by show i+1<=_;omega,?_⟩
     show m=(aI on (p.rules.l.take (i+1))).length
     rw[hpt,<-hm]
    ·show p.rules.l.length-(i+1)<p.rules.l.length-i
     omega
   ·exfalso;omega
  ·have hie:i=p.rules.l.length:=by omega
   subst hie
   rw[List.take_length] at hm hpl
   subst hm
   have hbb:decide ((p.rules.l.length:Int)<(p.rules.l.length:Int))=false:=decide_eq_false (by omega)
   rw[List.take_length]
   refine bQ (nj 2 [(1,.int .i64 a),(2,.ref 0 0),(6,gY bs),(7,.ref 1 0),(8,ap ⟨aS on p.rules.l 0,.auto⟩),(9,.int .i64 p.rules.l.length)] [.cells false 2 (nth [.int .i64 p.atoms,ae p.rules]),.cells false 2 (nth [.int .i64 p.atoms,ae (aE p on).rules])] (by omega) (by show 2<=4;omega) rfl (fun i hi=>?_) ⟨av.below trivial,av.below (show 0<2 by omega),av.below trivial,av.below (show 1<2 by omega),oo (o:=3) hpl rfl (by omega),av.below trivial,trivial⟩) ?_
   ·match i,hi with
    |0,_=>exact⟨rfl,rfl,fun j hj=>match j,hj with|0,_=>av.below trivial|1,_=>av.below trivial⟩
    |1,_=>exact⟨rfl,rfl,fun j hj=>match j,hj with|0,_=>av.below trivial|1,_=>rD (o:=2) rfl (Nat.le_refl _)⟩
   obtain⟨q,hq⟩:∃q,aE p on=q:=⟨_,rfl⟩
   have hqa:q.atoms=n:=by rw[<-hq];exact hpa
   have hql:q.rules.l.length<1000000:=by
    rw[<-hq]
    exact Nat.lt_of_le_of_lt (List.length_filter_le _ _) hl
   have hqr:∀r,r∈q.rules.l->ct n r:=fun r h=>by
    rw[<-hq] at h
    exact hrn r (List.mem_filter.1 h).1
   have hD:=fun (R:Res) (g:R.σ)=>yI R q n (by omega) hqa hql hqr g
   rw[hq]
   rw[hpa,<-hqa]
   refine vcQ [[1,1,1,1,0,1,0,0,0,1,0]] (lkL [(5,[1,2,6,7,8,9,26])]) (fun _=>[]) (fun Q=>(fun (u1:Int)=>(fun (u2:St R.σ)=>2<=2/\(decide (u1<u1)=true->Wp Tryd.prog R 126 0 Rd.top (af Tryd.prog 26) [1,1,1,1,0,1,0,0,0,1,0] (aq Tryd.prog R 126 0 Rd.top (af Tryd.prog 26) Q [Kont.seq [1,1,1,1,0,1,0,0,1]]) u2)/\(decide (u1<u1)=false->Q (AEx.exit 0) u2)) (St.mk [(1,int i64 (a:Int)),(2,ref 0 0),(6,fz Fz.auto 1 (bs.length) fun (i x:Nat)=>aF bs i),(7,ref 1 0),(8,fz Fz.auto 1 ((aS on p.rules.l 0).length) fun (i x:Nat)=>ab (aS on p.rules.l 0) i),(9,int i64 u1),(26,AV.bool (decide (u1<u1)))] [cells false 2 (nth [int i64 q.atoms,ae p.rules]),cells false 2 (nth [int i64 q.atoms,ae q.rules])] g)) ((p.rules.l.length:Int))) (fun _=>by kernel_rfl) ⟨by omega,fun hcc=>(nomatch (hbb.symm.trans hcc)),fun _=>?_⟩
   refine⟨_,To.refl _,vcQ [] (lkL [(10,[1,6,8,10,11]),(11,[1,6,8,10,11,12]),(12,[1,6,8,10,11,12,13])]) (lkL [(10,[(1,ROrc.kcall (tup 2 (nth [fz Fz.auto 2 ((aA (bI q n).fst).l.length) fun (i:Nat)=>co ((aA (bI q n).fst).l.getD i default),fz Fz.auto 1 ((bI q n).snd.length) fun (i x:Nat)=>ab (bI q n).snd i])))])]) (fun Q=>(fun (u1:List AObj)=>(fun (u2:AV)=>(fun (u3:AV)=>2<=2/\(true=true/\Does Tryd.prog R 19 [ay q] u1 g (ret (tup 2 (nth [u2,u3]))) u1 g)/\Wp Tryd.prog R 126 0 Rd.top (af Tryd.prog 26) [1,1,1,1,1,1,1,0,1,0] (aq Tryd.prog R 126 0 Rd.top (af Tryd.prog 26) Q [Kont.blk 2,Kont.seq [1,1,1,1,1,1,1,1]]) (St.mk [(1,int i64 (a:Int)),(6,fz Fz.auto 1 (bs.length) fun (i x:Nat)=>aF bs i),(8,fz Fz.auto 1 ((aS on p.rules.l 0).length) fun (i x:Nat)=>ab (aS on p.rules.l 0) i),(10,u2),(11,u3),(12,fz Fz.nil 0 0 fun _ _=>any),(13,int i64 0)] u1 g)) (fz Fz.auto 1 ((bI q n).snd.length) fun (i x:Nat)=>ab (bI q n).snd i)) (fz Fz.auto 2 ((aA (bI q n).fst).l.length) fun (i:Nat)=>co ((aA (bI q n).fst).l.getD i default))) ([cells false 2 (nth [int i64 q.atoms,ae p.rules]),cells false 2 (nth [int i64 q.atoms,ae q.rules])])) (fun _=>by kernel_rfl) ⟨by omega,⟨rfl,(bz [] 2 (fun R g=>hD R g) rfl rfl rfl (by exact trivial) (by exact trivial) (by exact⟨au (by exact⟨⟨trivial,trivial⟩,trivial⟩),trivial⟩) (by exact aw (by exact⟨⟨trivial,trivial⟩,trivial⟩)) (by exact⟨LeO.rflc,LeO.rflc,trivial⟩))⟩,?_⟩⟩
   have hqr0:∀r,r∈q.rules.l->aP r:=fun r h=>by
    rw[<-hq] at h
    exact hr r (List.mem_filter.1 h).1
   have hqh:cZ q:=fun r h=>by
    have:=(hqr r h).2.2
    omega
   have hq3:b8 q:=by show 1<=q.atoms/\q.atoms<=24;omega
   obtain⟨e1,e2⟩:=sy (p:=q) (n:=n) hq3 hqr0 hqr hqh (by omega)
   have hst:∀s,s∈(bI q n).1->gl q s:=by
    rw[e1]
    exact lw hq3 hqr0 hqh 25 (fun _=>3) [] (fun s hs=>by cases hs)
   have hru:=zG (p:=q) (n:=n)
   have hln:(bI q n).1.length<=24:=by
    rw[e1]
    exact jD hq3 hqr0 hqh
   have hvl:(bI q n).2.length=n:=sf
   have hNU:(aS on p.rules.l 0).length=q.rules.l.length:=by rw[<-hq];exact hpl
   obtain⟨l,hll⟩:∃l,(bI q n).1=l:=⟨_,rfl⟩
   obtain⟨vv,hvv⟩:∃vv,(bI q n).2=vv:=⟨_,rfl⟩
   obtain⟨NU,hNU0⟩:∃NU,aS on p.rules.l 0=NU:=⟨_,rfl⟩
   rw[hll] at hst hru hln ⊢
   rw[hvv] at hvl ⊢
   rw[hNU0] at hNU ⊢
   clear e1 e2 hpl hD
   have hsl:(aA l).l.length=l.length:=lq l
   refine bQ (a9 (s':=⟨[(1,.int .i64 a),(6,gY bs),(8,ap ⟨NU,.auto⟩),(10,aJ (aA l)),(11,ap ⟨vv,.auto⟩),(12,.fz .nil 0 0 fun _ _=>.any),(13,.int .i64 0)],[],g⟩) [] 2 rfl rfl rfl rfl rfl ⟨Le.refl _,Le.refl _,Le.refl _,Le.refl _,Le.refl _,Le.refl _,Le.refl _,trivial⟩ trivial) ?_
   refine bQ (eq (fun _=>.any) 1) ?_
   refine(bg (by kernel_rfl) (fun (x:Nat × Nat)=>⟨[(1,int i64 (a:Int)),(6,fz Fz.auto 1 (bs.length) fun (i x:Nat)=>aF bs i),(8,fz Fz.auto 1 (NU.length) fun (i x:Nat)=>ab NU i),(10,fz Fz.auto 2 ((aA l).l.length) fun (i:Nat)=>co ((aA l).l.getD i default)),(11,fz Fz.auto 1 (vv.length) fun (i x:Nat)=>ab vv i),(12,.ow true 0 x.2 2),(13,.int .i64 x.1)],[.cells false (x.2*2) (bb (bi on NU l x.1))],g⟩) (fun (x:Nat × Nat)=>(x.1<=l.length/\x.2=(bi on NU l x.1).length)) (fun (x:Nat × Nat)=>(l.length-x.1)) ((0,0):Nat × Nat) (aX ⟨Le.refl _,Le.refl _,Le.refl _,Le.refl _,Le.refl _,Le.nil_ow,(Le.of_eq (by kernel_rfl)),trivial⟩ ⟨⟨rfl,Nat.le_refl _,fun j hj=>absurd hj (Nat.not_lt_zero j)⟩,trivial⟩ rfl) ?_ (fun x hi=>?_))
   ·exact⟨Nat.zero_le _,rfl⟩
   ·obtain⟨i,m⟩:=x
    obtain⟨hi,hm⟩:=hi
    simp only at hi hm
    have hml:m<=24:=by have:=sV (on:=on) (nums:=NU) (l:=l) (i:=i);omega
    rcases Nat.lt_or_ge i l.length with hi'|hi'
    ·have hso:=hst _ (bN l default hi')
     have hsr:=hru _ (bN l default hi')
     have hsg:(aA l).l.getD i default=bV (l.getD i default):=nW hi'
     have hsr2:((aA l).l.getD i default).rule=(l.getD i default).rule:=by rw[hsg];rfl
     refine(fun (key:∀r:Int,r=d7 NU (l.getD i default)->Wp Tryd.prog R 126 0 Rd.top (af Tryd.prog 26) ?pp ?QQ ⟨[(1,.int .i64 a),(6,gY bs),(8,ap ⟨NU,.auto⟩),(10,aJ (aA l)),(11,ap ⟨vv,.auto⟩),(12,.ow true 0 m 2),(13,.int .i64 i),(14,.ref 1 0)],[.cells false (m*2) (bb (bi on NU l i)),.cells false 2 (nth [.int .i64 r,.fz .nil 0 0 fun _ _=>.any])],g⟩)=>?main) ?rest
     case main=>
      refine vcQ [[1,1,1,1,1,1,1,0,1,0,0,1,0,0,1,1]] (lkL [(13,[1,6,8,10,11,12,13,60]),(15,[1,6,8,10,11,12,13,14]),(16,[1,6,8,10,11,12,13,14,69]),(17,[1,6,8,10,11,12,13,14])]) (lkL [(15,[(2,ROrc.val (Orc.obj (nth [int i64 (-1),fz Fz.nil 0 0 fun _ _=>any])))]),(17,[(9,ROrc.val (Orc.obj (nth [ab NU (((aA l).l.getD i default).rule.toNat),fz Fz.nil 0 0 fun _ _=>any])))])]) (fun Q=>(fun (u1:Int)=>(fun (u2:Int)=>(fun (u3:List AV)=>(fun (u4:Nat × AV)=>(fun (u5:Int)=>(fun (u6:Nat × AV)=>(fun (u7:Nat × AV)=>(fun (u8:Nat × AV)=>(fun (u9:AEx->St R.σ->Prop)=>(fun (u10:AObj)=>(decide (u5<u2)=true->2<=2/\(∀(c:Nat),c<2->nth (int i64 (-1)::u3) c=ah (nth (int i64 0::u3)) 0 2 (List.brecOn (motive:=fun (x:List AV)=>Nat->AV) (int i64 (-1)::u3) nth._f) c)/\(0<=u5/\u5<u2)/\1<=2/\(decide (u1 >= 0)=true->(0<=u5/\u5<u2)/\1<=2/\(0<=u1/\u1<(NU.length:Int))/\1<=1/\1<=2/\(∀(c:Nat),c<2->nth (ab NU (u1.toNat)::u3) c=ah (nth (int i64 (-1)::u3)) 0 1 (fun (x:Nat)=>ab NU (u1.toNat)) c)/\Wp Tryd.prog R 126 0 Rd.top (af Tryd.prog 26) [1,1,1,1,1,1,1,0,1,0,0,1,0,0,1,1] u9 (St.mk [(1,int i64 (a:Int)),u7,u8,u4,u6,(12,ow true 0 m 2),(13,int i64 u5),(14,ref 1 0)] [u10,cells false 2 (nth (ab NU (u1.toNat)::u3))] g))/\(decide (u1 >= 0)=false->Wp Tryd.prog R 126 0 Rd.top (af Tryd.prog 26) [1,1,1,1,1,1,1,0,1,0,0,1,0,0,1,1] u9 (St.mk [(1,int i64 (a:Int)),u7,u8,u4,u6,(12,ow true 0 m 2),(13,int i64 u5),(14,ref 1 0),(69,AV.bool (decide (u1 >= 0)))] [u10,cells false 2 (nth (int i64 (-1)::u3))] g)))/\(decide (u5<u2)=false->Q (AEx.exit 2) (St.mk [(1,int i64 (a:Int)),u7,u8,u4,u6,(12,ow true 0 m 2),(13,int i64 u5),(60,AV.bool (decide (u5<u2)))] [u10] g))) (cells false (m*2) (bb (bi on NU l i)))) (aq Tryd.prog R 126 0 Rd.top (af Tryd.prog 26) Q [Kont.blk 3,Kont.seq [1,1,1,1,1,1,1,0,1,0,0,1,1]])) ((8,fz Fz.auto 1 (NU.length) fun (i x:Nat)=>ab NU i))) ((6,fz Fz.auto 1 (bs.length) fun (i x:Nat)=>aF bs i))) ((11,fz Fz.auto 1 (vv.length) fun (i x:Nat)=>ab vv i))) ((i:Int))) ((10,fz Fz.auto 2 ((aA l).l.length) fun (i:Nat)=>co ((aA l).l.getD i default)))) ([fz Fz.nil 0 0 fun _ _=>any])) ((↑((aA l).l.length):Int))) (((aA l).l.getD i default).rule)) (fun _=>by kernel_rfl) ⟨fun c1=>have c1:(i:Int)<(↑((aA l).l.length):Int):=(of_decide_eq_true c1);⟨by omega,(fun c hc=>match c,hc with|0,_=>(by kernel_rfl)|1,_=>(by kernel_rfl) ),by omega,by omega,fun c2=>have c2:((aA l).l.getD i default).rule >= 0:=(of_decide_eq_true c2);⟨by omega,by omega,?_,by omega,by omega,(fun c hc=>match c,hc with|0,_=>(by kernel_rfl)|1,_=>(by kernel_rfl) ),?_⟩,fun c2=>have c2:¬((aA l).l.getD i default).rule >= 0:=(of_decide_eq_false c2);?_⟩,fun c1=>have c1:¬(i:Int)<(↑((aA l).l.length):Int):=(of_decide_eq_false c1);?_⟩
      ·have:=hso.1 (by omega)
       omega
      ·exact key (NU.getD ((aA l).l.getD i default).rule.toNat 0) (by unfold d7;rw[hsr2,if_pos (by omega)])
      ·refine bQ ?_ (key (-1) (by unfold d7;rw[if_neg (by omega)];omega))
       exact a9 [0,1] 2 rfl rfl rfl rfl rfl ⟨Le.refl _,Le.refl _,Le.refl _,Le.refl _,Le.refl _,Le.refl _,Le.refl _,Le.refl _,trivial⟩ ⟨LeO.cells (fun j hj=>(iP trivial).symm),LeO.cells (fun j hj=>match j,hj with|0,_=>rfl|1,_=>rfl),trivial⟩
      ·exfalso;omega
     case rest=>
      intro r hr'
      obtain⟨at0,hat⟩:∃at0,(l.getD i default).atoms=at0:=⟨_,rfl⟩
      have hat2:((aA l).l.getD i default).atoms.l=at0:=by rw[hsg];exact hat
      have hso2:=hso.2
      rw[hat] at hso2
      refine vcQ [] (lkL [(18,[1,6,8,10,11,12,13,14,15])]) (fun _=>[]) (fun Q=>Wp Tryd.prog R 126 0 Rd.top (af Tryd.prog 26) [1,1,1,1,1,1,1,0,1,0,0,1,0,0,1,1,0,1,0] (aq Tryd.prog R 126 0 Rd.top (af Tryd.prog 26) Q [Kont.blk 4,Kont.seq [1,1,1,1,1,1,1,0,1,0,0,1,0,0,1,1,1]]) (St.mk [(1,int i64 (a:Int)),(6,fz Fz.auto 1 (bs.length) fun (i x:Nat)=>aF bs i),(8,fz Fz.auto 1 (NU.length) fun (i x:Nat)=>ab NU i),(10,fz Fz.auto 2 ((aA l).l.length) fun (i:Nat)=>co ((aA l).l.getD i default)),(11,fz Fz.auto 1 (vv.length) fun (i x:Nat)=>ab vv i),(12,ow true 0 m 2),(13,int i64 (i:Int)),(14,ref 1 0),(15,int i64 0)] [cells false (m*2) (bb (bi on NU l i)),cells false 2 (nth [int i64 r,fz Fz.nil 0 0 fun _ _=>any])] g)) (fun _=>by kernel_rfl) (?_)
      refine bQ (eq (fun _=>.any) 1) ?_
      refine(bg (by kernel_rfl) (fun (y:Nat × Nat)=>⟨[(1,int i64 (a:Int)),(6,fz Fz.auto 1 (bs.length) fun (i x:Nat)=>aF bs i),(8,fz Fz.auto 1 (NU.length) fun (i x:Nat)=>ab NU i),(10,fz Fz.auto 2 ((aA l).l.length) fun (i:Nat)=>co ((aA l).l.getD i default)),(11,fz Fz.auto 1 (vv.length) fun (i x:Nat)=>ab vv i),(12,ow true 0 m 2),(13,int i64 (i:Int)),(14,ref 1 0),(15,.int .i64 y.1)],[.cells false (m*2) (bb (bi on NU l i)),.cells false 2 (nth [.int .i64 r,.ow true 2 y.2 1]),.cells false (y.2*1) (ab (aH on (at0.take y.1)))],g⟩) (fun (y:Nat × Nat)=>(y.1<=at0.length/\y.2=(aH on (at0.take y.1)).length)) (fun (y:Nat × Nat)=>(at0.length-y.1)) ((0,0):Nat × Nat) (aX ⟨Le.refl _,Le.refl _,Le.refl _,Le.refl _,Le.refl _,Le.refl _,Le.refl _,Le.refl _,(Le.of_eq (by kernel_rfl)),trivial⟩ ⟨LeO.rflc,⟨rfl,Nat.le_refl _,fun j hj=>match j,hj with|0,_=>(Le.refl _)|1,_=>Le.nil_ow ⟩,⟨rfl,Nat.le_refl _,fun j hj=>absurd hj (Nat.not_lt_zero j)⟩,trivial⟩ rfl) ?_ (fun y hi=>?_))
      ·exact⟨Nat.zero_le _,rfl⟩
      ·obtain⟨k,j⟩:=y
       obtain⟨hk,hj⟩:=hi
       simp only at hk hj
       have hkl:(aH on (at0.take k)).length<=24:=Nat.le_trans (List.length_filter_le _ _) (by rw[List.length_take];omega)
       rcases Nat.lt_or_ge k at0.length with hk'|hk'
       ·have hka:=hso2.2.2 _ (bN at0 0 hk')
        have hkt:=zF (on:=on) hk'
        rw[<-hbit] at hkt
        have hka2:0<=((aA l).l.getD i default).atoms.l.getD k 0/\((aA l).l.getD i default).atoms.l.getD k 0<bs.length:=by rw[hat2];omega
        have hkl2:k<((aA l).l.getD i default).atoms.l.length:=by rw[hat2];exact hk'
        have hka3:((aA l).l.getD i default).atoms.l.getD k 0=at0.getD k 0:=by rw[hat2]
        refine vcQ [] (lkL [(19,[1,6,8,10,11,12,13,14,15,86]),(21,[1,6,8,10,11,12,13,14,15,99]),(22,[1,6,8,10,11,12,13,14,15]),(20,[1,6,8,10,11,12,13,14,15])]) (lkL [(22,[(11,ROrc.val (Orc.obj (ab (aH on (List.take k at0)++[((aA l).l.getD i default).atoms.l.getD k 0])))),(13,ROrc.val (Orc.obj (nth [int i64 r,ow true 4 (j+1) 1])))])]) (fun Q=>(fun (u1:List Int)=>(fun (u2:List (Nat × AV))=>(fun (u3:Int)=>(fun (u4:List AObj)=>(fun (u5:Int)=>(fun (u6:Int)=>(fun (u7:Int)=>(fun (u8:Int)=>(0<=u8/\u8<u7)/\1<=1/\(decide (u5<u3)=true->(0<=u8/\u8<u7)/\1<=1/\(0<=u5/\u5<u3)/\1<=1/\(0<=u6/\u6<(bs.length:Int))/\1<=1/\(bs.getD (u6.toNat) false=true->Tables.follows Tryd.prog.toTables Departure.mixedOrders=true/\2<=2/\(0<=u8/\u8<u7)/\1<=1/\(0<=u5/\u5<u3)/\1<=1/\0<1/\(j+1)*8<=aG/\j+1<=aG/\1<=1/\j*1<=j*1/\(∀(c:Nat),c<(j+1)*1->ab (aH on (List.take k at0)++[u6]) c=bc 1 j (fun (i j:Nat)=>ab (aH on (List.take k at0)) (i*1+j)) (fun (i j:Nat)=>ah (fun (j:Nat)=>int i64 0) 0 1 (fun (x:Nat)=>ab u1 k) (0+i*1+j)) c)/\2<=2/\(∀(c:Nat),c<2->nth [int i64 r,ow true 4 (j+1) 1] c=ah (nth [int i64 r,ow true 2 j 1]) 1 1 (fun (x:Nat)=>ow true 4 (j+1) 1) c)/\(-9223372036854775808<=u5+1/\u5+1<=9223372036854775807)/\Q AEx.normal (St.mk u2 [cells false (m*2) (bb (bi on NU l i)),cells false 2 (nth [int i64 r,ow true 4 (j+1) 1]),dead,cells false 1 (ah (fun (j:Nat)=>int i64 0) 0 1 fun (x:Nat)=>ab u1 k),cells false ((j+1)*1) fun (a:Nat)=>ab (aH on (List.take k at0)++[u6]) a] g))/\(bs.getD (u6.toNat) false=false->(-9223372036854775808<=u5+1/\u5+1<=9223372036854775807)/\Q AEx.normal (St.mk u2 u4 g)))/\(decide (u5<u3)=false->Q (AEx.exit 4) (St.mk [(1,int i64 (a:Int)),(6,fz Fz.auto 1 (bs.length) fun (i x:Nat)=>aF bs i),(8,fz Fz.auto 1 (NU.length) fun (i x:Nat)=>ab NU i),(10,fz Fz.auto 2 ((aA l).l.length) fun (i:Nat)=>co ((aA l).l.getD i default)),(11,fz Fz.auto 1 (vv.length) fun (i x:Nat)=>ab vv i),(12,ow true 0 m 2),(13,int i64 u8),(14,ref 1 0),(15,int i64 u5),(86,AV.bool (decide (u5<u3)))] u4 g))) ((i:Int))) ((↑((aA l).l.length):Int))) (u1.getD k 0)) ((k:Int))) ([cells false (m*2) (bb (bi on NU l i)),cells false 2 (nth [int i64 r,ow true 2 j 1]),cells false (j*1) fun (a:Nat)=>ab (aH on (List.take k at0)) a])) ((u1.length:Int))) ([(1,int i64 (a:Int)),(6,fz Fz.auto 1 (bs.length) fun (i x:Nat)=>aF bs i),(8,fz Fz.auto 1 (NU.length) fun (i x:Nat)=>ab NU i),(10,fz Fz.auto 2 ((aA l).l.length) fun (i:Nat)=>co ((aA l).l.getD i default)),(11,fz Fz.auto 1 (vv.length) fun (i x:Nat)=>ab vv i),(12,ow true 0 m 2),(13,int i64 (i:Int)),(14,ref 1 0),(15,int i64 ((k:Int)+1))])) (((aA l).l.getD i default).atoms.l)) (fun _=>by kernel_rfl) ⟨by omega,by omega,fun c1=>have c1:(k:Int)<(↑(((aA l).l.getD i default).atoms.l.length):Int):=(of_decide_eq_true c1);⟨by omega,by omega,by omega,by omega,by omega,by omega,fun c2=>⟨by kernel_rfl,by omega,by omega,by omega,by omega,by omega,by omega,by omega,by omega,by omega,by omega,?_,by omega,(fun c hc=>match c,hc with|0,_=>(by kernel_rfl)|1,_=>(by kernel_rfl) ),by omega,?_⟩,fun c2=>⟨by omega,?_⟩⟩,fun c1=>have c1:¬(k:Int)<(↑(((aA l).l.getD i default).atoms.l.length):Int):=(of_decide_eq_false c1);?_⟩
        ·intro c hc
         rw[hj] at hc ⊢
         exact(lu (z:=fun _=>.int .i64 0) hc).trans (by kernel_rfl)
        ·rw[hka3] at c2 ⊢
         rw[if_pos c2] at hkt
         refine(aL (k+1,j+1) (a9 [0,1,4] 5 rfl rfl rfl rfl rfl ⟨Le.refl _,Le.refl _,Le.refl _,Le.refl _,Le.refl _,Le.refl _,Le.refl _,Le.refl _,Le.refl _,trivial⟩ ⟨⟨by first|rfl|(simp;done),by first|exact Nat.le_refl _|(simp;done)|(simp;omega),fun j hj=>(by first|exact au (by first|exact trivial|apply lC)|exact Le.of_eq (iP rfl).symm)⟩,⟨rfl,Nat.le_refl _,fun j hj=>match j,hj with|0,_=>(Le.refl _)|1,_=>(Le.refl _) ⟩,?_,trivial⟩) ?_ ?_)
         ·show LeO (.cells false ((j+1)*1) (ab (aH on (at0.take k)++[at0.getD k 0]))) (.cells false ((j+1)*1) (ab (aH on (at0.take (k+1)))))
          rw[hkt]
          exact LeO.refl _
         ·refine⟨by show k+1<=_;omega,?_⟩
          show j+1=(aH on (at0.take (k+1))).length
          rw[hkt,List.length_append,<-hj]
          rfl
         ·show at0.length-(k+1)<at0.length-k
          omega
        ·rw[hka3] at c2
         rw[if_neg (by rw[c2];decide)] at hkt
         refine(aL (k+1,j) (aX ⟨Le.refl _,Le.refl _,Le.refl _,Le.refl _,Le.refl _,Le.refl _,Le.refl _,Le.refl _,(Le.of_eq (by kernel_rfl)),trivial⟩ ⟨LeO.rflc,LeO.rflc,?_,trivial⟩ rfl) ?_ ?_)
         ·show LeO (.cells false (j*1) (ab (aH on (at0.take k)))) (.cells false (j*1) (ab (aH on (at0.take (k+1)))))
          rw[hkt]
          exact LeO.refl _
         ·refine⟨by show k+1<=_;omega,?_⟩
          show j=(aH on (at0.take (k+1))).length
          rw[hkt,<-hj]
         ·show at0.length-(k+1)<at0.length-k
          omega
        ·exfalso;omega
       ·have hke:k=at0.length:=by omega
        subst hke
        rw[List.take_length]
        rw[List.take_length] at hj hkl
        have hbb:decide ((at0.length:Int)<(((aA l).l.getD i default).atoms.l.length:Int))=false:=decide_eq_false (by rw[hat2];omega)
        refine bQ (nj 2 [(1,.int .i64 a),(6,gY bs),(8,ap ⟨NU,.auto⟩),(10,aJ (aA l)),(11,ap ⟨vv,.auto⟩),(12,.ow true 0 m 2),(13,.int .i64 i),(14,.ref 1 0),(15,.int .i64 at0.length)] [.cells false (m*2) (bb (bi on NU l i)),.cells false 2 (nth [.int .i64 r,ap ⟨aH on at0,.auto⟩])] (by omega) (by show 2<=3;omega) rfl (fun i hi=>?_) ⟨av.below trivial,av.below trivial,av.below trivial,av.below trivial,av.below trivial,av.below (show 0<2 by omega),av.below trivial,av.below (show 1<2 by omega),av.below trivial,trivial⟩) ?_
        ·match i,hi with
         |0,_=>exact⟨rfl,rfl,fun j hj=>av.below (lC _ _)⟩
         |1,_=>exact⟨rfl,rfl,fun j' hj'=>match j',hj' with|0,_=>av.below trivial|1,_=>oo (o:=2) hj.symm rfl (Nat.le_refl _)⟩
        obtain⟨kp,hkp⟩:∃kp,aH on at0=kp:=⟨_,rfl⟩
        rw[hkp] at hj hkl ⊢
        have hT:bi on NU l (i+1)=if 0<kp.length then bi on NU l i++[⟨r,kp⟩] else bi on NU l i:=by
         show(if 0<(aH on (l.getD i default).atoms).length then bi on NU l i++[⟨d7 NU (l.getD i default),aH on (l.getD i default).atoms⟩] else bi on NU l i)=_
         rw[hat,hkp,<-hr']
        refine vcQ [[1,1,1,1,1,1,1,0,1,0,0,1,0,0,1,1,0,1,0,0,0,1,0]] (lkL [(19,[1,6,8,10,11,12,13,14,15,86])]) (fun _=>[]) (fun Q=>(fun (u1:St R.σ)=>(fun (u2:Int)=>(fun (u3:Int)=>(0<=(i:Int)/\(i:Int)<(↑((aA l).l.length):Int))/\1<=1/\(decide (u3<u2)=true->Wp Tryd.prog R 126 0 Rd.top (af Tryd.prog 26) [1,1,1,1,1,1,1,0,1,0,0,1,0,0,1,1,0,1,0,0,0,1,0] (aq Tryd.prog R 126 0 Rd.top (af Tryd.prog 26) Q [Kont.seq [1,1,1,1,1,1,1,0,1,0,0,1,0,0,1,1,0,1,0,0,1]]) u1)/\(decide (u3<u2)=false->Q (AEx.exit 4) u1)) ((at0.length:Int))) ((↑(((aA l).l.getD i default).atoms.l.length):Int))) (St.mk [(1,int i64 (a:Int)),(6,fz Fz.auto 1 (bs.length) fun (i x:Nat)=>aF bs i),(8,fz Fz.auto 1 (NU.length) fun (i x:Nat)=>ab NU i),(10,fz Fz.auto 2 ((aA l).l.length) fun (i:Nat)=>co ((aA l).l.getD i default)),(11,fz Fz.auto 1 (vv.length) fun (i x:Nat)=>ab vv i),(12,ow true 0 m 2),(13,int i64 (i:Int)),(14,ref 1 0),(15,int i64 (at0.length:Int)),(86,AV.bool (decide ((at0.length:Int)<(↑(((aA l).l.getD i default).atoms.l.length):Int))))] [cells false (m*2) (bb (bi on NU l i)),cells false 2 (nth [int i64 r,fz Fz.auto 1 (kp.length) fun (i x:Nat)=>ab kp i])] g)) (fun _=>by kernel_rfl) ⟨by omega,by omega,fun hcc=>(nomatch (hbb.symm.trans hcc)),fun _=>?_⟩
        refine⟨_,To.refl _,vcQ [] (lkL [(23,[1,6,8,10,11,12,13,14,116]),(24,[1,6,8,10,11,12,13])]) (lkL [(24,[(3,ROrc.val (Orc.obj (bb (bi on NU l i++[Stp.mk r kp]))))])]) (fun Q=>(fun (u1:List AV)=>(fun (u2:Int)=>(fun (u3:AV)=>(fun (u4:AV)=>(fun (u5:AV)=>(fun (u6:AV)=>2<=2/\(decide (u2 > 0)=true->2<=2/\0<2/\(m+1)*32<=aG/\m+1<=aG/\2<=2/\m*2<=m*2/\(∀(c:Nat),c<(m+1)*2->bb (bi on NU l i++[Stp.mk r kp]) c=bc 2 m (fun (i_1 j:Nat)=>bb (bi on NU l i) (i_1*2+j)) (fun (i j:Nat)=>ah (fun (j:Nat)=>nth [int i64 0,fz Fz.nil 0 0 fun _ _=>any] (j%2)) 0 2 (List.brecOn (motive:=fun (x:List AV)=>Nat->AV) u1 nth._f) (0+i*2+j)) c)/\Q AEx.normal (St.mk [(1,int i64 (a:Int)),(6,u4),(8,u5),(10,u3),(11,u6),(12,ow true 3 (m+1) 2),(13,int i64 (i:Int))] [dead,cells false 2 (nth u1),cells false 2 (ah (fun (j:Nat)=>nth [int i64 0,fz Fz.nil 0 0 fun _ _=>any] (j%2)) 0 2 (List.brecOn (motive:=fun (x:List AV)=>Nat->AV) u1 nth._f)),cells false ((m+1)*2) (bb (bi on NU l i++[Stp.mk r kp]))] g))/\(decide (u2 > 0)=false->Q AEx.normal (St.mk [(1,int i64 (a:Int)),(6,u4),(8,u5),(10,u3),(11,u6),(12,ow true 0 m 2),(13,int i64 (i:Int)),(14,ref 1 0),(116,AV.bool (decide (u2 > 0)))] [cells false (m*2) (bb (bi on NU l i)),cells false 2 (nth u1)] g))) (fz Fz.auto 1 (vv.length) fun (i x:Nat)=>ab vv i)) (fz Fz.auto 1 (NU.length) fun (i x:Nat)=>ab NU i)) (fz Fz.auto 1 (bs.length) fun (i x:Nat)=>aF bs i)) (fz Fz.auto 2 ((aA l).l.length) fun (i:Nat)=>co ((aA l).l.getD i default))) ((kp.length:Int))) ([int i64 r,fz Fz.auto 1 (kp.length) fun (i x:Nat)=>ab kp i])) (fun _=>by kernel_rfl) ⟨by omega,fun c1=>have c1:(kp.length:Int) > 0:=(of_decide_eq_true c1);⟨by omega,by omega,by omega,by omega,by omega,by omega,?_,?_⟩,fun c1=>have c1:¬(kp.length:Int) > 0:=(of_decide_eq_false c1);?_⟩⟩
        ·intro c hc
         rw[hm] at hc ⊢
         exact(rY (t:=⟨r,kp⟩) (s:=bV ⟨r,kp⟩) (z:=fun j=>nth [.int .i64 0,.fz .nil 0 0 fun _ _=>.any] (j%2)) rfl hc).trans (by kernel_rfl)
        ·rw[if_pos (by omega)] at hT
         refine vcQ [] (lkL [(14,[1,6,8,10,11,12,13])]) (fun _=>[]) (fun Q=>(fun (u1:List AV)=>(-9223372036854775808<=(i:Int)+1/\(i:Int)+1<=9223372036854775807)/\Q AEx.normal (St.mk [(1,int i64 (a:Int)),(6,fz Fz.auto 1 (bs.length) fun (i x:Nat)=>aF bs i),(8,fz Fz.auto 1 (NU.length) fun (i x:Nat)=>ab NU i),(10,fz Fz.auto 2 ((aA l).l.length) fun (i:Nat)=>co ((aA l).l.getD i default)),(11,fz Fz.auto 1 (vv.length) fun (i x:Nat)=>ab vv i),(12,ow true 3 (m+1) 2),(13,int i64 ((i:Int)+1))] [dead,cells false 2 (nth u1),cells false 2 (ah (fun (j:Nat)=>nth [int i64 0,fz Fz.nil 0 0 fun _ _=>any] (j%2)) 0 2 (List.brecOn (motive:=fun (x:List AV)=>Nat->AV) u1 nth._f)),cells false ((m+1)*2) (bb (bi on NU l i++[Stp.mk r kp]))] g)) ([int i64 r,fz Fz.auto 1 (kp.length) fun (i x:Nat)=>ab kp i])) (fun _=>by kernel_rfl) ⟨by omega,?_⟩
         refine(aL (i+1,m+1) (a9 [3] 4 rfl rfl rfl rfl rfl ⟨Le.refl _,Le.refl _,Le.refl _,Le.refl _,Le.refl _,Le.refl _,Le.refl _,trivial⟩ ⟨?_,trivial⟩) ?_ ?_)
         ·show LeO (.cells false ((m+1)*2) (bb (bi on NU l i++[⟨r,kp⟩]))) (bP _ (.cells false ((m+1)*2) (bb (bi on NU l (i+1)))))
          rw[hT]
          exact LeO.cells (fun j hj=>(iP trivial).symm)
         ·refine⟨by show i+1<=_;omega,?_⟩
          show m+1=(bi on NU l (i+1)).length
          rw[hT,List.length_append,<-hm]
          rfl
         ·show l.length-(i+1)<l.length-i
          omega
        ·rw[if_neg (by omega)] at hT
         refine vcQ [] (lkL [(14,[1,6,8,10,11,12,13])]) (fun _=>[]) (fun Q=>(-9223372036854775808<=(i:Int)+1/\(i:Int)+1<=9223372036854775807)/\Q AEx.normal (St.mk [(1,int i64 (a:Int)),(6,fz Fz.auto 1 (bs.length) fun (i x:Nat)=>aF bs i),(8,fz Fz.auto 1 (NU.length) fun (i x:Nat)=>ab NU i),(10,fz Fz.auto 2 ((aA l).l.length) fun (i:Nat)=>co ((aA l).l.getD i default)),(11,fz Fz.auto 1 (vv.length) fun (i x:Nat)=>ab vv i),(12,ow true 0 m 2),(13,int i64 ((i:Int)+1))] [cells false (m*2) (bb (bi on NU l i)),cells false 2 (nth [int i64 r,fz Fz.auto 1 (kp.length) fun (i x:Nat)=>ab kp i])] g)) (fun _=>by kernel_rfl) ⟨by omega,?_⟩
         refine(aL (i+1,m) (a9 [0] 2 rfl rfl rfl rfl rfl ⟨Le.refl _,Le.refl _,Le.refl _,Le.refl _,Le.refl _,Le.refl _,Le.refl _,trivial⟩ ⟨?_,trivial⟩) ?_ ?_)
         ·show LeO (.cells false (m*2) (bb (bi on NU l i))) (bP _ (.cells false (m*2) (bb (bi on NU l (i+1)))))
          rw[hT]
          exact LeO.cells (fun j hj=>(iP trivial).symm)
         ·refine⟨by show i+1<=_;omega,?_⟩
          show m=(bi on NU l (i+1)).length
          rw[hT,<-hm]
         ·show l.length-(i+1)<l.length-i
          omega
    ·have hie:i=l.length:=by omega
     subst hie
     subst hm
     have hbb:decide ((l.length:Int)<((aA l).l.length:Int))=false:=decide_eq_false (by omega)
     refine vcQ [[1,1,1,1,1,1,1,0,1,0,0,0,1,0]] (lkL [(13,[1,6,8,10,11,12,13,60])]) (fun _=>[]) (fun Q=>(fun (u1:St R.σ)=>(fun (u2:Int)=>(fun (u3:Int)=>(decide (u3<u2)=true->Wp Tryd.prog R 126 0 Rd.top (af Tryd.prog 26) [1,1,1,1,1,1,1,0,1,0,0,0,1,0] (aq Tryd.prog R 126 0 Rd.top (af Tryd.prog 26) Q [Kont.seq [1,1,1,1,1,1,1,0,1,0,0,1]]) u1)/\(decide (u3<u2)=false->Q (AEx.exit 2) u1)) ((l.length:Int))) ((↑((aA l).l.length):Int))) (St.mk [(1,int i64 (a:Int)),(6,fz Fz.auto 1 (bs.length) fun (i x:Nat)=>aF bs i),(8,fz Fz.auto 1 (NU.length) fun (i x:Nat)=>ab NU i),(10,fz Fz.auto 2 ((aA l).l.length) fun (i:Nat)=>co ((aA l).l.getD i default)),(11,fz Fz.auto 1 (vv.length) fun (i x:Nat)=>ab vv i),(12,ow true 0 ((bi on NU l (l.length)).length) 2),(13,int i64 (l.length:Int)),(60,AV.bool (decide ((l.length:Int)<(↑((aA l).l.length):Int))))] [cells false ((bi on NU l (l.length)).length*2) (bb (bi on NU l (l.length)))] g)) (fun _=>by kernel_rfl) ⟨fun hcc=>(nomatch (hbb.symm.trans hcc)),fun _=>?_⟩
     refine⟨_,To.refl _,vcQ [] (lkL [(25,[4,5])]) (fun _=>[]) (fun Q=>(0<=(a:Int)/\(a:Int)<(vv.length:Int))/\1<=1/\Q AEx.ret (St.mk [(4,ab vv a),(5,ow true 0 ((bi on NU l (l.length)).length) 2)] [cells false ((bi on NU l (l.length)).length*2) (bb (bi on NU l (l.length)))] g)) (fun _=>by kernel_rfl) ⟨by omega,by omega,?_⟩⟩
     show bw Tryd.prog R 0 _ _ _ _ .ret _
     refine dh (.tup 2 (nth [.int .i64 (vv.getD a 0),.ow true 0 (bi on NU l l.length).length 2])) _ rfl trivial (fG 0 [(0,.tup 2 (nth [.int .i64 (vv.getD a 0),aJ (aA (bi on NU l l.length))]))] (Nat.le_refl _) (Nat.zero_le _) (fun i hi=>absurd hi (Nat.not_lt_zero i)) ⟨av.tup (fun j hj=>?_),trivial⟩)
     match j,hj with
     |0,_=>exact av.below trivial
     |1,_=>exact sd rfl (Nat.zero_le _)
theorem zI (R:Res)(p:Prg)(goal:Int)(hs:em p)(hb:aR p=false)(hp:List AObj)(g:R.σ):Does Tryd.prog R 25 [ay p,.int .i64 goal] hp g (.ret (.tup 3 (nth [.int .i64 0,.fz .nil 0 0 (fun _ _=>.any),.int .i64 2]))) hp g:=by
 refine ca (fun R g=>?_) (by exact⟨⟨⟨trivial,trivial⟩,trivial⟩,trivial,trivial⟩) R hp g
 have hK:∀(R:Res) (hp:List AObj) (g:R.σ),Does Tryd.prog R 16 [ay p] hp g (.ret (.int .i64 2)) hp g:=fun R hp g=>by
  have h:=f9 R p hp g hs
  rw[hb] at h
  exact h
 refine az (nt:=98) (rs:=[.tmp 4,.tmp 5,.tmp 6]) (k0:=0) (by kernel_rfl) (by kernel_rfl) (by kernel_rfl) rfl ?_
 refine vcQ [[1,0,1,1]] (lkL [(0,[1,2]),(1,[1,2,27]),(2,[4,5,6])]) (lkL [(1,[(1,ROrc.pcall (int i64 2)),(8,ROrc.pcall (AV.bool (decide (0<=goal/\goal<=p.atoms-1))))])]) (fun Q=>(fun (u1:AObj)=>2<=2/\(∀(hp:List AObj) (g:R.σ),true=true/\Does Tryd.prog R 16 [ay p] hp g (ret (int i64 2)) hp g)/\(false=true->1<=2)/\(false=true -> -9223372036854775808<=p.atoms-1/\p.atoms-1<=9223372036854775807)/\(false=true->∀(hp:List AObj) (g:R.σ),true=true/\Does Tryd.prog R 58 [int i64 goal,int i64 0,int i64 (p.atoms-1)] hp g (ret (AV.bool (decide (0<=goal/\goal<=p.atoms-1)))) hp g)/\(true=true->Q AEx.ret (St.mk [(4,int i64 0),(5,fz Fz.nil 0 0 fun _ _=>any),(6,int i64 2)] [u1] g))/\(true=false->Wp Tryd.prog R 98 0 Rd.top (af Tryd.prog 25) [1,0,1,1] (aq Tryd.prog R 98 0 Rd.top (af Tryd.prog 25) Q [Kont.seq [1,1]]) (St.mk [(1,int i64 goal),(2,ref 0 0),(27,AV.bool true)] [u1] g))) (cells false 2 (nth [int i64 p.atoms,ae p.rules]))) (fun _=>by kernel_rfl) ⟨by omega,(fun _ _=>⟨rfl,(hK _ _ _)⟩),by omega,(by intro h;simp at h <;> omega),(fun hgd=>(fun _ _=>⟨rfl,(dZ _ _ _ _ _ _)⟩)),fun _=>?_,fun h=>(nomatch h)⟩
 refine(ax (bR _ _ rfl trivial ⟨⟨⟨trivial,trivial⟩,trivial⟩,trivial⟩ rfl) (Le.refl _))
theorem zJ {l:List Stp}:(aA l).l.map cC=l.map (fun s=>(s.rule,s.atoms)):=by
 show(l.map bV).map cC=_
 rw[List.map_map]
 rfl
theorem zK {on:Nat}{NU:List Int}{l:List Stp}:(cF on NU l).l.map cC=(aA (bi on NU l l.length)).l.map cC:=by
 rw[zJ,sW,List.map_map]
 show((aZ on l l.length).map _).map cC=_
 rw[List.map_map]
 rfl
theorem zL {on:Nat}{NU:List Int}{l:List Stp}(h:l.length<=24):(cF on NU l).l.length<1000000:=by
 show((aZ on l l.length).map _).length<_
 rw[List.length_map]
 have:(aZ on l l.length).length<=l.length:=Nat.le_trans (List.length_filter_le _ _) (by rw[List.length_range];exact Nat.le_refl _)
 omega
theorem zM {on:Nat}{NU:List Int}{l:List Stp}{q:Prg}(h:∀s,s∈l->gl q s)(i:Nat):((cF on NU l).l.getD i default).atoms.l.length<1000000:=by
 have hm:∀s,s∈(cF on NU l).l->s.atoms.l.length<1000000:=fun s hs=>by
  obtain⟨k,hk,rfl⟩:=List.mem_map.1 (show s∈(aZ on l l.length).map _ from hs)
  have hk:=List.mem_range.1 (List.mem_filter.1 hk).1
  have:=(h _ (bN l default hk)).2.2.1
  show(aH on (l.getD k default).atoms).length<1000000
  have h2:(aH on (l.getD k default).atoms).length<=(l.getD k default).atoms.length:=List.length_filter_le _ _
  omega
 rcases Nat.lt_or_ge i (cF on NU l).l.length with hi|hi
 ·exact hm _ (bN _ default hi)
 ·rw[List.getD_eq_getElem?_getD,List.getElem?_eq_none hi]
  exact(by decide:(default:Step).atoms.l.length<1000000)
theorem zN (R:Res)[Tab LT R](p:Prg)(goal:Int)(g:R.σ):Does Tryd.prog R 5 [ay p,.int .i64 goal] [] g (.ret (.bool true)) [] g:=by
 refine az (nt:=69) (rs:=[.tmp 4]) (k0:=0) (by kernel_rfl) (by kernel_rfl) (by kernel_rfl) rfl ?_
 cases hsm:ga p with
 |false=>
  refine vcQ [[1,0,1,1]] (lkL [(0,[1,2]),(1,[1,2,12]),(2,[4])]) (lkL [(1,[(1,ROrc.pcall (AV.bool false))]),(2,[(0,ROrc.kcall (AV.bool true))])]) (fun Q=>(fun (u1:List AObj)=>2<=2/\(∀(hp:List AObj) (g:R.σ),true=true/\Does Tryd.prog R 14 [ay p] hp g (ret (AV.bool false)) hp g)/\(true=true->(true=true/\Does Tryd.prog R 15 [] u1 g (ret (AV.bool true)) u1 g)/\Q AEx.ret (St.mk [(4,AV.bool true)] u1 g))/\(true=false->Wp Tryd.prog R 69 0 Rd.top (af Tryd.prog 5) [1,0,1,1] (aq Tryd.prog R 69 0 Rd.top (af Tryd.prog 5) Q [Kont.seq [1,1]]) (St.mk [(1,int i64 goal),(2,ref 0 0),(12,AV.bool true)] u1 g))) ([cells false 2 (nth [int i64 p.atoms,ae p.rules])])) (fun _=>by kernel_rfl) ⟨by omega,(fun _ _=>⟨rfl,(f0 hsm (kT _ _ _ _))⟩),fun _=>⟨⟨rfl,(bp (T:=LT) inferInstance [] 1 (fun R _ g=>lN R g) rfl rfl rfl (by exact trivial) (by exact trivial) (by exact trivial) (by exact aw (by exact trivial)) (by exact⟨LeO.rflc,trivial⟩))⟩,?_⟩,fun h=>(nomatch h)⟩
  refine(ax (bR _ _ rfl trivial trivial rfl) (Le.refl _))
 |true=>
  have hs:=wj hsm
  cases hb:aR p with
  |false=>
   refine vcQ [[1,0,1,0],[1,1,1,0,1,1]] (lkL [(0,[1,2]),(1,[1,2,12]),(3,[1,2,5,6,7]),(4,[1,2,5,6,7,33]),(5,[4])]) (lkL [(1,[(1,ROrc.pcall (AV.bool true))]),(3,[(2,ROrc.pcall (tup 3 (nth [int i64 0,fz Fz.nil 0 0 fun _ _=>any,int i64 2])))]),(4,[(1,ROrc.pcall (AV.bool false))]),(5,[(12,ROrc.kcall (AV.bool true))])]) (fun Q=>(fun (u1:List AObj)=>2<=2/\(∀(hp:List AObj) (g:R.σ),true=true/\Does Tryd.prog R 14 [ay p] hp g (ret (AV.bool true)) hp g)/\(false=true->Wp Tryd.prog R 69 0 Rd.top (af Tryd.prog 5) [1,0,1,0] (aq Tryd.prog R 69 0 Rd.top (af Tryd.prog 5) Q [Kont.seq [1,1]]) (St.mk [(1,int i64 goal),(2,ref 0 0),(12,AV.bool false)] u1 g))/\(false=false->2<=2/\(∀(hp:List AObj) (g:R.σ),true=true/\Does Tryd.prog R 25 [ay p,int i64 goal] hp g (ret (tup 3 (nth [int i64 0,fz Fz.nil 0 0 fun _ _=>any,int i64 2]))) hp g)/\2<=2/\(∀(hp:List AObj) (g:R.σ),true=true/\Does Tryd.prog R 18 [ay p] hp g (ret (AV.bool false)) hp g)/\(false=true->1<=2)/\(true=true->(true=true->true=true/\Does Tryd.prog R 15 [] u1 g (ret (AV.bool true)) u1 g)/\Q AEx.ret (St.mk [(4,AV.bool true)] u1 g))/\(true=false->Wp Tryd.prog R 69 0 Rd.top (af Tryd.prog 5) [1,1,1,0,1,1] (aq Tryd.prog R 69 0 Rd.top (af Tryd.prog 5) Q [Kont.seq [1,1,1,1]]) (St.mk [(1,int i64 goal),(2,ref 0 0),(5,int i64 0),(6,fz Fz.nil 0 0 fun _ _=>any),(7,int i64 2),(33,AV.bool true)] u1 g)))) ([cells false 2 (nth [int i64 p.atoms,ae p.rules])])) (fun _=>by kernel_rfl) ⟨by omega,(fun _ _=>⟨rfl,(f0 hsm (kT _ _ _ _))⟩),fun h=>(nomatch h),fun _=>⟨by omega,(fun _ _=>⟨rfl,(zI _ _ _ (by omega) (by omega) _ _)⟩),by omega,(fun _ _=>⟨rfl,(f0 hb (nl _ _ _ _ (by omega)))⟩),by omega,fun _=>⟨(fun hgd=>⟨rfl,(bp (T:=LT) inferInstance [] 1 (fun R _ g=>lN R g) rfl rfl rfl (by exact trivial) (by exact trivial) (by exact trivial) (by exact aw (by exact trivial)) (by exact⟨LeO.rflc,trivial⟩))⟩),?_⟩,fun h=>(nomatch h)⟩⟩
   refine(ax (bR _ _ rfl trivial trivial rfl) (Le.refl _))
  |true=>
   obtain⟨hl,hr,hp,hh,hx⟩:=ff hb
   have hp':1<=p.atoms/\p.atoms<=24:=hp
   by_cases hg:0<=goal/\goal<p.atoms
   ·obtain⟨a,ha⟩:∃a:Nat,goal=a:=⟨goal.toNat,by omega⟩
    subst ha
    obtain⟨n,hn⟩:∃n,p.atoms.toNat=n:=⟨_,rfl⟩
    have hrn:=sN hb
    obtain⟨on,hon⟩:∃on,hgP p a=on:=⟨_,rfl⟩
    obtain⟨q,hq⟩:∃q,aE p on=q:=⟨_,rfl⟩
    have hA:=fun (R:Res) [Tab LT R] (g:R.σ)=>rJ R p a hb (by omega) g
    have hV:=fun (R:Res) (g:R.σ)=>zH R p a hb (by omega) g
    rw[hn] at hrn
    simp only[Int.toNat_natCast,hon,hq,hn] at hA hV
    have hqa:q.atoms=n:=by rw[<-hq];show p.atoms=n;omega
    have hqm:∀r,r∈q.rules.l->r∈p.rules.l:=fun r h=>by
     rw[<-hq] at h
     exact(List.mem_filter.1 h).1
    have hqh:cZ q:=fun r h=>by
     have:=(hrn r (hqm r h)).2.2
     omega
    have hq3:b8 q:=by show 1<=q.atoms/\q.atoms<=24;omega
    obtain⟨e1,e2⟩:=sy (p:=q) (n:=n) hq3 (fun r h=>hr r (hqm r h)) (fun r h=>hrn r (hqm r h)) hqh (by omega)
    have e3:=e2.get a (by omega)
    have hln:=jD hq3 (fun r h=>hr r (hqm r h)) hqh
    rw[e1,e3] at hV
    obtain⟨l,hl0⟩:∃l,(am q).1=l:=⟨_,rfl⟩
    obtain⟨y,hy⟩:∃y,(am q).2 a=y:=⟨_,rfl⟩
    obtain⟨NU,hNU⟩:∃NU,aS on p.rules.l 0=NU:=⟨_,rfl⟩
    have hst:∀s,s∈(am q).1->gl q s:=lw hq3 (fun r h=>hr r (hqm r h)) hqh 25 (fun _=>3) [] (fun s hs=>by cases hs)
    rw[hl0] at hV hln hst
    simp only[hl0,hy,hNU] at hA hV
    have hS:∀(R:Res) (hp:List AObj) (g:R.σ),Does Tryd.prog R 20 [aJ (cF on NU l),aJ (aA (bi on NU l l.length))] hp g (.ret (.bool true)) hp g:=fun R hp g=>by
     have h:=nq R (cF on NU l) (aA (bi on NU l l.length)) hp g (zL hln) (zM hst)
     rw[decide_eq_true zK] at h
     exact h
    obtain⟨S1,hS1⟩:∃S,cF on NU l=S:=⟨_,rfl⟩
    obtain⟨S2,hS2⟩:∃S,aA (bi on NU l l.length)=S:=⟨_,rfl⟩
    rw[hS1] at hA hS
    rw[hS2] at hV hS
    clear e1 e2 e3 hst
    have hgc:(bif false then true else decide ((a:Int) >= p.atoms))=false:=decide_eq_false (by omega)
    refine vcQ [[1,0,1,0],[1,1,1,0,1,0]] (lkL [(0,[1,2]),(1,[1,2,12]),(3,[1,2,5,6,7]),(4,[1,2,5,6,7,33]),(6,[5,6,7,8,9]),(7,[4])]) (lkL [(1,[(1,ROrc.pcall (AV.bool true))]),(3,[(2,ROrc.kcall (tup 3 (nth [int i64 y,aJ S1,int i64 0])))]),(4,[(1,ROrc.pcall (AV.bool true))]),(6,[(2,ROrc.kcall (tup 2 (nth [int i64 y,aJ S2])))]),(7,[(10,ROrc.pcall (AV.bool true)),(13,ROrc.kcall (AV.bool true))])]) (fun Q=>(fun (u1:List AObj)=>(fun (u2:Bool)=>(fun (u3:Bool)=>(fun (u4:AV)=>2<=2/\(∀(hp:List AObj) (g:R.σ),true=true/\Does Tryd.prog R 14 [ay p] hp g (ret (AV.bool true)) hp g)/\(false=true->Wp Tryd.prog R 69 0 Rd.top (af Tryd.prog 5) [1,0,1,0] (aq Tryd.prog R 69 0 Rd.top (af Tryd.prog 5) Q [Kont.seq [1,1]]) (St.mk [(1,u4),(2,ref 0 0),(12,AV.bool false)] u1 g))/\(false=false->2<=2/\(true=true/\Does Tryd.prog R 25 [ay p,u4] u1 g (ret (tup 3 (nth [int i64 y,aJ S1,int i64 0]))) u1 g)/\2<=2/\(∀(hp:List AObj) (g:R.σ),true=true/\Does Tryd.prog R 18 [ay p] hp g (ret (AV.bool true)) hp g)/\(true=true->1<=2)/\(u2=true->Wp Tryd.prog R 69 0 Rd.top (af Tryd.prog 5) [1,1,1,0,1,0] (aq Tryd.prog R 69 0 Rd.top (af Tryd.prog 5) Q [Kont.seq [1,1,1,1]]) (St.mk [(1,u4),(2,ref 0 0),(5,int i64 y),(6,aJ S1),(7,int i64 0),(33,AV.bool u2)] u1 g))/\(u2=false->2<=2/\(true=true/\Does Tryd.prog R 26 [ay p,u4] u1 g (ret (tup 2 (nth [int i64 y,aJ S2]))) u1 g)/\(u3=true->∀(hp:List AObj) (g:R.σ),true=true/\Does Tryd.prog R 20 [aJ S1,aJ S2] hp g (ret (AV.bool true)) hp g)/\((bif u3 then true else false)=true->true=true/\Does Tryd.prog R 15 [] u1 g (ret (AV.bool true)) u1 g)/\Q AEx.ret (St.mk [(4,AV.bool (bif bif u3 then true else false then true else false))] u1 g)))) (int i64 (a:Int))) (bif true then y==y else false)) (bif false then true else decide ((a:Int) >= p.atoms))) ([cells false 2 (nth [int i64 p.atoms,ae p.rules])])) (fun _=>by kernel_rfl) ⟨by omega,(fun _ _=>⟨rfl,(f0 hsm (kT _ _ _ _))⟩),fun h=>(nomatch h),fun _=>⟨by omega,⟨rfl,(bp (T:=LT) inferInstance [] 1 (fun R _ g=>hA R g) rfl rfl rfl (by exact trivial) (by exact trivial) (by exact⟨au (by exact⟨⟨trivial,trivial⟩,trivial⟩),au (by exact trivial),trivial⟩) (by exact aw (by exact⟨⟨⟨trivial,trivial⟩,trivial⟩,trivial⟩)) (by exact⟨LeO.rflc,trivial⟩))⟩,by omega,(fun _ _=>⟨rfl,(f0 hb (nl _ _ _ _ (by omega)))⟩),by omega,fun hcc=>(nomatch (hgc.symm.trans hcc)),fun _=>⟨by omega,⟨rfl,(bp (T:=LT) inferInstance [] 1 (fun R _ g=>hV R g) rfl rfl rfl (by exact trivial) (by exact trivial) (by exact⟨au (by exact⟨⟨trivial,trivial⟩,trivial⟩),au (by exact trivial),trivial⟩) (by exact aw (by exact⟨⟨trivial,trivial⟩,trivial⟩)) (by exact⟨LeO.rflc,trivial⟩))⟩,(fun hgd=>(fun _ _=>⟨rfl,(hS _ _ _)⟩)),(fun hgd=>⟨rfl,(bp (T:=LT) inferInstance [] 1 (fun R _ g=>lN R g) rfl rfl rfl (by exact trivial) (by exact trivial) (by exact trivial) (by exact aw (by exact trivial)) (by exact⟨LeO.rflc,trivial⟩))⟩),?_⟩⟩⟩
    refine(ax (bR _ _ rfl trivial trivial rfl) (Le.of_eq ?_))
    show(AV.bool (bif bif bif true then y==y else false then true else false then true else false))=_
    simp
   ·have hR:∀(R:Res) (g:R.σ),Does Tryd.prog R 25 [ay p,.int .i64 goal] [] g (.ret (.tup 3 (nth [.int .i64 0,.fz .nil 0 0 (fun _ _=>.any),.int .i64 2]))) [] g:=fun R g=>rK R p goal (by omega) hs (by rw[hb,decide_eq_false (by omega)];rfl) [] g
    have hgc:(bif (bif false then true else decide (goal<0)) then true else decide (goal >= p.atoms))=true:=by
     by_cases h:goal<0
     ·rw[decide_eq_true h];rfl
     ·rw[decide_eq_false h,decide_eq_true (by omega)];rfl
    refine vcQ [[1,0,1,0],[1,1,1,0,1,1]] (lkL [(0,[1,2]),(1,[1,2,12]),(3,[1,2,5,6,7]),(4,[1,2,5,6,7,33]),(5,[4])]) (lkL [(1,[(1,ROrc.pcall (AV.bool true))]),(3,[(2,ROrc.pcall (tup 3 (nth [int i64 0,fz Fz.nil 0 0 fun _ _=>any,int i64 2])))]),(4,[(1,ROrc.pcall (AV.bool true))]),(5,[(12,ROrc.kcall (AV.bool true))])]) (fun Q=>(fun (u1:List AObj)=>(fun (u2:Bool)=>2<=2/\(∀(hp:List AObj) (g:R.σ),true=true/\Does Tryd.prog R 14 [ay p] hp g (ret (AV.bool true)) hp g)/\(false=true->Wp Tryd.prog R 69 0 Rd.top (af Tryd.prog 5) [1,0,1,0] (aq Tryd.prog R 69 0 Rd.top (af Tryd.prog 5) Q [Kont.seq [1,1]]) (St.mk [(1,int i64 goal),(2,ref 0 0),(12,AV.bool false)] u1 g))/\(false=false->2<=2/\(∀(hp:List AObj) (g:R.σ),true=true/\Does Tryd.prog R 25 [ay p,int i64 goal] hp g (ret (tup 3 (nth [int i64 0,fz Fz.nil 0 0 fun _ _=>any,int i64 2]))) hp g)/\2<=2/\(∀(hp:List AObj) (g:R.σ),true=true/\Does Tryd.prog R 18 [ay p] hp g (ret (AV.bool true)) hp g)/\((!bif false then true else decide (goal<0))=true->1<=2)/\(u2=true->(true=true->true=true/\Does Tryd.prog R 15 [] u1 g (ret (AV.bool true)) u1 g)/\Q AEx.ret (St.mk [(4,AV.bool true)] u1 g))/\(u2=false->Wp Tryd.prog R 69 0 Rd.top (af Tryd.prog 5) [1,1,1,0,1,1] (aq Tryd.prog R 69 0 Rd.top (af Tryd.prog 5) Q [Kont.seq [1,1,1,1]]) (St.mk [(1,int i64 goal),(2,ref 0 0),(5,int i64 0),(6,fz Fz.nil 0 0 fun _ _=>any),(7,int i64 2),(33,AV.bool u2)] u1 g)))) (bif bif false then true else decide (goal<0) then true else decide (goal >= p.atoms))) ([cells false 2 (nth [int i64 p.atoms,ae p.rules])])) (fun _=>by kernel_rfl) ⟨by omega,(fun _ _=>⟨rfl,(f0 hsm (kT _ _ _ _))⟩),fun h=>(nomatch h),fun _=>⟨by omega,(fun _ _=>⟨rfl,(rK _ _ _ (by omega) (by omega) (by simp at * <;> omega) _ _)⟩),by omega,(fun _ _=>⟨rfl,(f0 hb (nl _ _ _ _ (by omega)))⟩),by omega,fun _=>⟨(fun hgd=>⟨rfl,(bp (T:=LT) inferInstance [] 1 (fun R _ g=>lN R g) rfl rfl rfl (by exact trivial) (by exact trivial) (by exact trivial) (by exact aw (by exact trivial)) (by exact⟨LeO.rflc,trivial⟩))⟩),?_⟩,fun hcc=>(nomatch (hgc.symm.trans hcc))⟩⟩
    refine(ax (bR _ _ rfl trivial trivial rfl) (Le.refl _))
end Go.Avm.Pack
namespace Go.Proofs.YtbdagmhndndliaaDoor
open Go Go.Avm Go.Avm.Pack Go.WideShapes Go.ChangeShapes Go.ChangeAt
def zO (cs:Array Value):Obj->Obj
 |.cells _ t frozen=>.cells cs t frozen
 |o=>o
noncomputable def oy (os:Os):World:=
 { World.holding Tryd.prog os ⟨#[],#[],[]⟩ with heap:=(World.holding Tryd.prog os ⟨#[],#[],[]⟩).heap.modify 0 (zO #[.int .u8 0,.int .u8 1,.int .u8 56,.int .u8 2,.int .u8 57,.int .u8 49,.int .u8 28,.int .u8 3,.int .u8 61,.int .u8 58,.int .u8 42,.int .u8 50,.int .u8 38,.int .u8 29,.int .u8 17,.int .u8 4,.int .u8 62,.int .u8 47,.int .u8 59,.int .u8 36,.int .u8 45,.int .u8 43,.int .u8 51,.int .u8 22,.int .u8 53,.int .u8 39,.int .u8 33,.int .u8 30,.int .u8 24,.int .u8 18,.int .u8 12,.int .u8 5,.int .u8 63,.int .u8 55,.int .u8 48,.int .u8 27,.int .u8 60,.int .u8 41,.int .u8 37,.int .u8 16,.int .u8 46,.int .u8 35,.int .u8 44,.int .u8 21,.int .u8 52,.int .u8 32,.int .u8 23,.int .u8 11,.int .u8 54,.int .u8 26,.int .u8 40,.int .u8 15,.int .u8 34,.int .u8 20,.int .u8 31,.int .u8 10,.int .u8 25,.int .u8 14,.int .u8 19,.int .u8 9,.int .u8 13,.int .u8 8,.int .u8 7,.int .u8 6]) }
theorem zP (os:Os):laidMet Tryd.prog Rows.tableAnswersRow.laid ((oy os).forCall (fun _ _=>0) ⟨#[],#[.agg #[.int .i64 0,.slice none 0 0],.int .i64 0],[]⟩).memory:=
 laidMet_of_run' 8 (by kernel_rfl) (by kernel_rfl)
theorem zQ (os:Os){H:Type}(enc:TypeId × Value->H):∃places,DataW.whole enc Tryd.prog ((oy os).forCall (fun _ _=>0) ⟨#[],#[.agg #[.int .i64 0,.slice none 0 0],.int .i64 0],[]⟩).memory Tryd.f5.params.toList Rows.tableAnswersSpec.vars false (#[.agg #[.int .i64 0,.slice none 0 0],.int .i64 0]:Array Value).toList 8=some ([.agg [.lit (.int .i64 0),.nil],.lit (.int .i64 0)],[],places):=
 ⟨[],by kernel_rfl⟩
theorem zR (W:World)(h:laidMetH Tryd.prog Rows.tableAnswersRow.laid W):cW gsT (du W):=by
 have h:laidMet Tryd.prog [("math/bits.deBruijn64tab",Lib.tabData .u8 gH)] W:=h
 exact vK (t:=164) (e:=5) (n:=64) (by kernel_rfl) (by kernel_rfl) Tryd.underlying164 Tryd.underlying5 (by kernel_rfl) (by kernel_rfl) h (fun _=>vJ)
set_option maxRecDepth 100000 in
theorem zS (os:Os)(started:os.Started)(H:Type)(enc:TypeId × Value->H)(F:Stop.Interp) :
  ReturnsInHanded {} Tryd.checked os 5 .any ((OpenSpec.ofChange Rows.tableAnswersSpec).preRow enc Tryd.prog Tryd.f5 Rows.tableAnswersRow.domain Rows.tableAnswersRow.apart Rows.tableAnswersRow.laid) (((OpenSpec.ofChange Rows.tableAnswersSpec).at F).post enc Tryd.prog Tryd.f5 Rows.tableAnswersRow.apart Rows.tableAnswersRow.fresh Rows.tableAnswersRow.handsOn Rows.tableAnswersRow.again):=by
 obtain⟨places,hx⟩:=zQ os enc
 exact vL (C:=Tryd.checked) (s:=Rows.tableAnswersSpec) (tb:=4) (gs:=gsT) (X:=fun l=>∃a:Prg,True/\∃l',(∃b:Int,True/\∃l'',(l''=[])/\l'=sU b::l'')/\l=ay a::l') (by kernel_rfl) started (by kernel_rfl) Tryd.func5
  (witness_row_at (enc:=enc) (C:=Tryd.checked) false (oy os) #[.agg #[.int .i64 0,.slice none 0 0],.int .i64 0] rfl (by kernel_rfl) (by kernel_rfl) (by kernel_rfl)
   (OpenSpec.preRow_of_cond 8 hx (by kernel_rfl) (fun k hk=>by cases hk) (by kernel_rfl) (zP os)))
  rfl (fun ds h=>by
   match ds,h with
   |[_,_],_=>rfl) (by kernel_rfl)
  (fun t ht=>by
   have ht:t∈([24,3]:List Nat):=ht
   simp only[List.mem_cons,List.not_mem_nil,or_false] at ht
   rcases ht with rfl|rfl <;> exact⟨by kernel_rfl,of_decide_eq_true (by kernel_rfl)⟩) rfl Tryd.underlying4 zR
  ((qe zD (qe zE vD)))
  (fun avs ⟨a,ha,_,⟨b,hb,_,e0,e1⟩,e2⟩=>by
   subst e0 e1 e2
   exact zN (Res.tab gsT) a b ())
theorem zT:Rows.TableAnswersSaid:=
 OpenClaim.holds_of_cond 5 Tryd.f5 rfl rfl rfl rfl rfl rfl rfl ⟨rfl,rfl,rfl,rfl,rfl⟩ rfl rfl rfl rfl rfl (by kernel_rfl) Tryd.func5 (by kernel_rfl)
  (of_decide_eq_true (by kernel_rfl)) (by unfold Func.isWrapper;first|(rw[if_pos (by decide +kernel)];kernel_rfl)|(rw[if_neg (by decide +kernel)];exact⟨rfl,rfl⟩))
  (fun os started H enc _ F=>by rw[OpenClaim.pre_eq_preRow];exact zS os started H enc F)
theorem zU (f:FuncId)(fn:Func)(hf:Tryd.pinned.checked.prog.funcNamed "swingle/swinglelaw18.TableAnswers"=some f)(hfn:Tryd.pinned.checked.prog.funcs[f]? = some fn) :
  true=Tryd.pinned.checked.prog.looks []/\∀(j:Nat) t,fn.params[j]? = some t->Tryd.pinned.checked.prog.wantsStandIn t=false:=by
 obtain rfl:f=5:=Option.some.inj ((show Tryd.prog.funcNamed "swingle/swinglelaw18.TableAnswers"=some 5 by kernel_rfl).symm.trans hf) |>.symm
 obtain rfl:fn=Tryd.f5:=(Option.some.inj (Tryd.func5.symm.trans hfn)).symm
 refine⟨by kernel_rfl,fun j t ht=>?_⟩
 have hm:t∈(Tryd.f5.params).toList:=Array.mem_toList_iff.2 (Array.mem_of_getElem? ht)
 have hm:t∈([24,3]:List Nat):=hm
 simp only[List.mem_cons,List.not_mem_nil,or_false] at hm
 rcases hm with rfl|rfl
 ·exact(show Tryd.prog.wantsStandIn 24=false by kernel_rfl)
 ·exact(show Tryd.prog.wantsStandIn 3=false by kernel_rfl)
theorem tableAnswers_holds:Rows.TableAnswersCardSaid:=
 Claim7.holds_tied_plain_at .later [] _ _ _ _ zT (fun _ h=>by cases h) (by kernel_rfl) (fun _ h=>by cases h) tableAnswers_row_tie rfl ⟨rfl,rfl⟩ (by kernel_rfl) rfl zU (by kernel_rfl)
#print axioms tableAnswers_holds
end Go.Proofs.YtbdagmhndndliaaDoor
