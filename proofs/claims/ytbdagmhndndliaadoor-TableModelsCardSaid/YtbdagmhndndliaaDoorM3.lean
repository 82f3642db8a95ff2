/- Part 3 of the proof: lemmas. -/
import Derived.Test.YtbdagmhndndliaaDoorM2
namespace Go.Avm.Pack
open Go Go.Avm Go.Proofs
open Go.IntKind (i64 u64)
open Go.Avm.AV (int bool any fz fp sl ow ref fn ifc val agg tup)
open Go.Avm.AObj (cells dead)
open Go.Avm.Oc (ret)
set_option maxRecDepth 4000
def jq (v:Nat->Int):AV:=.agg 24 (fun j=>.int .i64 (v j))
theorem qy (v:Nat->Int):Below 0 (jq v):=dN.2 (fun _ _=>trivial)
def kS (k:Nat):Nat->AV:=fun j=>.int .i64 (if j<k then 3 else 0)
theorem qQ {j:Nat}(hj:j<24):nth [.int .i64 0,.int .i64 0,.int .i64 0,.int .i64 0,.int .i64 0,.int .i64 0,.int .i64 0,.int .i64 0,.int .i64 0,.int .i64 0,.int .i64 0,.int .i64 0,.int .i64 0,.int .i64 0,.int .i64 0,.int .i64 0,.int .i64 0,.int .i64 0,.int .i64 0,.int .i64 0,.int .i64 0,.int .i64 0,.int .i64 0,.int .i64 0] j=kS 0 j:=by
 match j,hj with
 |0,_=>rfl
 |1,_=>rfl
 |2,_=>rfl
 |3,_=>rfl
 |4,_=>rfl
 |5,_=>rfl
 |6,_=>rfl
 |7,_=>rfl
 |8,_=>rfl
 |9,_=>rfl
 |10,_=>rfl
 |11,_=>rfl
 |12,_=>rfl
 |13,_=>rfl
 |14,_=>rfl
 |15,_=>rfl
 |16,_=>rfl
 |17,_=>rfl
 |18,_=>rfl
 |19,_=>rfl
 |20,_=>rfl
 |21,_=>rfl
 |22,_=>rfl
 |23,_=>rfl
 |n+24,h=>exact absurd h omg
theorem ww (R:Res)(hp:List AObj)(g:R.σ):Does Tryd.prog R 99 [] hp g (.ret (jq (fun _=>3))) hp g:=by
 refine bG (fun R g=>?_) (by exact trivial) R hp g
 refine spW (nt:=10) (rs:=[.cell 0 95]) (k0:=0) ?_
 refine vcR [] (lkL [(0,[0]),(1,[0,1]),(2,[0,1,3])]) (fun _=>[]) (fun (Q:AEx->St R.σ->Prop)=>WpC Tryd.prog R 10 0 99 [1,1,0,1,0] Q [Kont.blk 0,Kont.seq [1,1,1]] (St.mk [(0,ref 0 0),(1,ref 1 0),(3,i6 0)] [cO 24 (nth [i6 0,i6 0,i6 0,i6 0,i6 0,i6 0,i6 0,i6 0,i6 0,i6 0,i6 0,i6 0,i6 0,i6 0,i6 0,i6 0,i6 0,i6 0,i6 0,i6 0,i6 0,i6 0,i6 0,i6 0]),cO 24 (nth [i6 0,i6 0,i6 0,i6 0,i6 0,i6 0,i6 0,i6 0,i6 0,i6 0,i6 0,i6 0,i6 0,i6 0,i6 0,i6 0,i6 0,i6 0,i6 0,i6 0,i6 0,i6 0,i6 0,i6 0])] g)) (?_)
 refine(a8 krf (fun (k:Nat)=>⟨[(0,ref 0 0),(1,ref 1 0),(3,.int .i64 k)],[cO 24 (kS 0),cO 24 (kS k)],g⟩) (fun (k:Nat)=>(k<=24)) (fun (k:Nat)=>(24-k)) 0 (toL (h1:=⟨Af _,Af _,(Ag krf),trivial⟩) (h2:=⟨(Ap (fun j hj=>?_)),(Ap (fun j hj=>?_)),trivial⟩)) ?_ (fun k hi=>?_))
 ·exact qQ hj
 ·exact qQ hj
 ·omega
 ·refine vcR [] (lkL [(3,[0,1,3,4]),(4,[0,1,2,3]),(5,[0,1,3]),(6,[0,1,3])]) (fun _=>[]) (fun Q=>(fun (u1:Int)=>(fun (u2:AObj)=>(decide (u1<24)=true->(0<=u1/\u1<(↑24:Int))/\k+1<=24/\(-9223372036854775808<=u1+1/\u1+1<=9223372036854775807)/\Q AEx.normal (St.mk [(0,ref 0 0),(1,ref 1 0),(3,i6 (u1+1))] [u2,cO 24 (am (fun (a:Nat)=>i6 (if a<k then 3 else 0)) k 1 fun x=>i6 3)] g))/\(decide (u1<24)=false->Q (AEx.exit 0) (St.mk [(0,ref 0 0),(1,ref 1 0),(3,i6 u1),(4,AV.bool (decide (u1<24)))] [u2,cO 24 fun a=>i6 (if a<k then 3 else 0)] g))) (cO 24 fun a=>i6 (if a<0 then 3 else 0))) ((↑k:Int))) ⟨fun c1=>have c1:(↑k:Int)<24:=(of_decide_eq_true c1);⟨omg,omg,omg,?_⟩,fun c1=>have c1:¬(↑k:Int)<24:=(of_decide_eq_false c1);?_⟩
  ·refine(aQ (k+1) (toL (h1:=⟨Af _,Af _,(Ag krf),trivial⟩) (h2:=⟨Ah,(Ap (fun j hj=>?_)),trivial⟩)) ?_ ?_)
   ·unfold kS
    rw[dP]
    split
    ·have:j=k:=by omega
     subst this
     simp
    ·have:(j<k)=(j<k+1):=by apply propext;omega
     simp only[this]
   ·omega
   ·omega
  ·have hk:k=24:=by omega
   subst hk
   refine⟨_,Ar _,vcR [] (lkL [(7,[0])]) (fun _=>[]) (fun Q=>24<=24/\24<=24/\Q AEx.ret (St.mk [(0,ref 0 0)] [cO 24 (am (fun (a:Nat)=>i6 (if a<0 then 3 else 0)) 0 24 fun j=>i6 ((fun (j:Nat)=>if j<24 then 3 else 0) j)),cO 24 fun a=>i6 (if a<24 then 3 else 0)] g)) ⟨omg,omg,?_⟩⟩
   refine(aq (bA (agg 24 (am (fun (a:Nat)=>i6 (if a<0 then 3 else 0)) 0 24 fun (j:Nat)=>i6 (if j<24 then 3 else 0))) ([0+(TyI.mk ((fun (x:TypeInfo)=>x.desc) Tryd.prog.types[94]) Tryd.prog.types[95].size Tryd.prog.types[95].bytes (cB (dW (Value.agg #[Value.int i64 0,Value.int i64 0,Value.int i64 0,Value.int i64 0,Value.int i64 0,Value.int i64 0,Value.int i64 0,Value.int i64 0,Value.int i64 0,Value.int i64 0,Value.int i64 0,Value.int i64 0,Value.int i64 0,Value.int i64 0,Value.int i64 0,Value.int i64 0,Value.int i64 0,Value.int i64 0,Value.int i64 0,Value.int i64 0,Value.int i64 0,Value.int i64 0,Value.int i64 0,Value.int i64 0]))) (dl ((fun (x:TypeInfo)=>x.desc) Tryd.prog.types[94])) (ez Tryd.prog 95)).size<=24]) krf (by exact⟨dcd,trivial⟩) ⟨⟨⟨⟨⟨⟨⟨⟨⟨⟨⟨⟨⟨⟨⟨⟨⟨⟨⟨⟨⟨⟨⟨⟨trivial,trivial⟩,trivial⟩,trivial⟩,trivial⟩,trivial⟩,trivial⟩,trivial⟩,trivial⟩,trivial⟩,trivial⟩,trivial⟩,trivial⟩,trivial⟩,trivial⟩,trivial⟩,trivial⟩,trivial⟩,trivial⟩,trivial⟩,trivial⟩,trivial⟩,trivial⟩,trivial⟩,trivial⟩ rfl) (Ak (fun j hj=>?_)))
   ·exact Ag (by rw[dP];simp[hj])
def br (v:Nat->Int)(l:Lit):Int:=if !l.neg||v l.atom.toNat==3 then v l.atom.toNat else if v l.atom.toNat==2 then 1 else 2
def ah (p:Prg)(v:Nat->Int)(m:AV):Nat->AV:=fun j=>if j=0 then .int .i64 p.atoms else if j=1 then ae p.rules else if j<26 then .int .i64 (v (j-2)) else m
theorem fq {p:Prg}{v:Nat->Int}{m:AV}{k j:Nat}(e:k=j+2)(h:j<24):ah p v m k=.int .i64 (v j):=by
 subst e
 unfold ah
 rw[if_neg omg,if_neg omg,if_pos omg]
 rfl
theorem bj (p:Prg)(v:Nat->Int)(k j:Nat):Below (k+2) (ah p v (.mp 1) j):=by
 unfold ah
 split
 ·trivial
 ·split
  ·trivial
  ·split
   ·trivial
   ·exact(Nat.lt_add_left k (Nat.lt_succ_self 1):1<k+2)
theorem cq {f:Nat->Nat}(h:f 1=1){p:Prg}{v:Nat->Int}{j:Nat}:aN f (ah p v (.mp 1) j)=ah p v (.mp 1) j:=by
 unfold ah
 split
 ·rfl
 ·split
  ·rfl
  ·split
   ·rfl
   ·show AV.mp (f 1)=_
    rw[h]
theorem qR (R:Res)(p:Prg)(v:Nat->Int)(es:List (Value × AV))(l:Lit)(h:0<=l.atom/\l.atom<24)(g:R.σ):Does Tryd.prog R 119 [.ref 0 2,bW l] [cO 27 (ah p v (.mp 1)),.map es] g (.ret (.int .i64 (br v l))) [cO 27 (ah p v (.mp 1)),.map es] g:=by
 refine spW (nt:=24) (rs:=[.tmp 4]) (k0:=2) ?_
 refine vcR [] (lkL [(0,[0,3]),(1,[3,5]),(2,[5,12]),(4,[21]),(5,[4]),(3,[4]),(6,[4])]) (lkL [(1,[(5,ROrc.kop (i6 (v (Int.toNat l.atom))))])]) (fun Q=>(fun (u1:List AObj)=>(fun (u2:Int)=>Flw Tryd.prog/\1<=2/\(0<=l.atom/\l.atom<(↑24:Int))/\OpOk Tryd.prog R (Oper.mk (some 11) (Op.load 43 (Operand.tmp 10)) 43 "table.go:76" #[Edge.mk 4 Ground.data] none) (evO [Row.mk (some 10) none (ref 0 (Int.toNat l.atom+2)) false (some []) [],Row.mk (some 9) none (ref 0 2) false (some []) [],Row.mk (some 8) none (i6 l.atom) false (some []) [2],Row.mk (some 7) none (ref 2 0) false (some []) [],Row.mk (some 6) none (ref 0 2) false (some []) []] [(0,ref 0 2),(3,ref 2 0)] []) u1 g (i6 u2) u1 g/\2<=2/\((bif !l.neg then true else u2==3)=true->Q AEx.ret (St.mk [(4,i6 u2)] u1 g))/\((bif !l.neg then true else u2==3)=false->((u2==2)=true->Q AEx.ret (St.mk [(4,i6 1)] u1 g))/\((u2==2)=false->Q AEx.ret (St.mk [(4,i6 2)] u1 g)))) (v (Int.toNat l.atom))) ([cO 27 (ah p v (AV.mp 1)),AObj.map es,cO 2 (nth [i6 l.atom,AV.bool l.neg])])) ⟨krf,omg,omg,?_,omg,fun c1=>have c1:l.neg=false∨v (Int.toNat l.atom)=3:=((cY c1).imp (fun h=>((Bool.not_eq_true' _).mp h)) (fun h=>(beq_iff_eq.mp h)));?_,fun c1=>have c1:l.neg=true/\¬v (Int.toNat l.atom)=3:=⟨((Bool.not_eq_false' _).mp (bl c1).1),(beq_eq_false_iff_ne.mp (bl c1).2)⟩;⟨fun c2=>have c2:v (Int.toNat l.atom)=2:=(beq_iff_eq.mp c2);?_,fun c2=>have c2:¬v (Int.toNat l.atom)=2:=(beq_eq_false_iff_ne.mp c2);?_⟩⟩
 ·exact fh rfl rfl krf rfl (by show _+1<=27;omega) (fq omg omg)
 ·refine(aq (cE 2 _ _ rfl trivial omg trivial ⟨(fun _ _=>(by first|exact trivial|apply bj)),trivial⟩ krf rfl rfl) (Ag ?_))
  show(i6 (v (Int.toNat l.atom)))=_
  show AV.int .i64 _=AV.int .i64 _
  unfold br
  rcases c1 with h1|h1 <;> simp[h1]
 ·refine(aq (cE 2 _ _ rfl trivial omg trivial ⟨(fun _ _=>(by first|exact trivial|apply bj)),trivial⟩ krf rfl rfl) (Ag ?_))
  show(i6 1)=_
  show AV.int .i64 _=AV.int .i64 _
  unfold br
  simp[c1.1,c2]
 ·refine(aq (cE 2 _ _ rfl trivial omg trivial ⟨(fun _ _=>(by first|exact trivial|apply bj)),trivial⟩ krf rfl rfl) (Ag ?_))
  show(i6 2)=_
  show AV.int .i64 _=AV.int .i64 _
  unfold br
  simp[c1.1,c1.2,c2]
theorem wx (R:Res)(p:Prg)(v:Nat->Int)(es:List (Value × AV))(l:Lit)(h:0<=l.atom/\l.atom<24)(g:R.σ):Does Tryd.prog R 118 [bW l,.ref 2 0] [cO 27 (ah p v (.mp 1)),.map es,cO 1 (fun _=>.ref 0 2)] g (.ret (.bool (br v l != 2))) [cO 27 (ah p v (.mp 1)),.map es,cO 1 (fun _=>.ref 0 2)] g:=by
 refine spW (nt:=8) (rs:=[.tmp 3]) (k0:=3) ?_
 refine vcR [] (lkL [(0,[1,2]),(1,[3])]) (lkL [(1,[(2,ROrc.kcall (i6 (br v l)))])]) (fun Q=>(fun (u1:List AObj)=>1<=1/\2<=2/\(true=true/\Does Tryd.prog R 119 [ref 0 2,bW l] u1 g (ret (i6 (br v l))) u1 g)/\Q AEx.ret (St.mk [(3,AV.bool (br v l != 2))] u1 g)) ([cO 27 (ah p v (AV.mp 1)),AObj.map es,cO 1 fun x=>ref 0 2,cO 2 (nth [i6 l.atom,AV.bool l.neg])])) ⟨omg,omg,⟨rfl,(doS [0,1] 4 (fun R g=>qR R (p) (v) (es) (l) omg g))⟩,?_⟩
 refine(aq (cE 3 _ _ rfl trivial omg trivial ⟨(fun _ _=>(by first|exact trivial|apply bj)),(fun j hj=>match j,hj with|0,_=>(show 1<=3 by omega) ),trivial⟩ krf rfl rfl) (Af _))
def cF (v:Nat->Int)(r:Rule):Bool:= !r.body.l.any (fun l=>br v l != 2)
def kT (r:Rule):Prop:=r.body.l.length<1000000/\∀l,l∈r.body.l->0<=l.atom/\l.atom<24
theorem nc (R:Res)(p:Prg)(v:Nat->Int)(es:List (Value × AV))(r:Rule)(h:kT r)(g:R.σ):Does Tryd.prog R 114 [.ref 0 2,bS r] [cO 27 (ah p v (.mp 1)),.map es] g (.ret (.bool (cF v r))) [cO 27 (ah p v (.mp 1)),.map es] g:=by
 have h1:=h.1
 have hb:=h.2
 refine spW (nt:=10) (rs:=[.tmp 4]) (k0:=2) ?_
 refine vcR [] (lkL [(0,[2,3]),(1,[4])]) (lkL [(1,[(3,ROrc.kcall (AV.bool (List.any r.body.l fun (r:Lit)=>br v r != 2)))])]) (fun Q=>(fun (u1:List AObj)=>2<=2/\(true=true/\Does Tryd.prog R 50 [ao r.body,fn 118 0 (nth []) 1 (nth [ref 2 0])] u1 g (ret (AV.bool (List.any r.body.l fun (r:Lit)=>br v r != 2))) u1 g)/\Q AEx.ret (St.mk [(4,AV.bool !List.any r.body.l fun (r:Lit)=>br v r != 2)] u1 g)) ([cO 27 (ah p v (AV.mp 1)),AObj.map es,cO 1 fun a=>ref 0 2,cO 2 (nth [i6 r.head,ao r.body])])) ⟨omg,⟨rfl,(jn _ _ _ _ _ _ _ _ _ _ omg krf (fun r _=>(doS [0,1,2] 4 (fun R g=>wx R (p) (v) (es) (r) ?_ g))))⟩,?_⟩
 ·exact hb _ (by assumption)
 ·refine(aq (cE 2 _ _ rfl trivial omg trivial ⟨(fun _ _=>(by first|exact trivial|apply bj)),trivial⟩ krf rfl rfl) (Ag krf))
def aD (v:Nat->Int)(x:Int)(n:Nat):Nat:=(List.range n).foldl (fun s a=>if v a=x then s|||2^a else s) 0
theorem ip (v:Nat->Int)(x:Int)(n:Nat):aD v x (n+1)=if v n=x then aD v x n|||2^n else aD v x n:=by
 unfold aD
 rw[List.range_succ,List.foldl_append]
 rfl
theorem kU (v:Nat->Int)(x:Int)(n:Nat):aD v x n<2^n:=by
 induction n with
 |zero=>exact Nat.zero_lt_one
 |succ n ih=>
  rw[ip]
  have h1:aD v x n<2^(n+1):=Nat.lt_trans ih (Nat.pow_lt_pow_right dcd omg)
  split
  ·exact Nat.or_lt_two_pow h1 (Nat.pow_lt_pow_right dcd omg)
  ·exact h1
theorem wy (R:Res)(p:Prg)(v:Nat->Int)(es:List (Value × AV))(n:Nat)(x:Int)(h:n<=24)(g:R.σ):Does Tryd.prog R 76 [.ref 0 2,.int .i64 n,.int .i64 x] [cO 27 (ah p v (.mp 1)),.map es] g (.ret (.int .u64 (aD v x n))) [cO 27 (ah p v (.mp 1)),.map es] g:=by
 refine spW (nt:=26) (rs:=[.tmp 6]) (k0:=2) ?_
 refine vcR [] (lkL [(0,[0,1,2]),(1,[0,1,2,7]),(2,[0,2,7,9,10])]) (fun _=>[]) (fun (Q:AEx->St R.σ->Prop)=>WpC Tryd.prog R 26 2 76 [1,1,0,1,0] Q [Kont.blk 0,Kont.seq [1,1,1]] (St.mk [(0,ref 0 2),(2,i6 x),(7,int u64 0),(9,i6 (↑n:Int)),(10,i6 0)] [cO 27 (ah p v (AV.mp 1)),AObj.map es] g)) (?_)
 refine(a8 krf (fun (k:Nat)=>⟨[(0,ref 0 2),(2,i6 x),(7,.int .u64 (aD v x k)),(9,i6 (n:Int)),(10,.int .i64 k)],[cO 27 (ah p v (AV.mp 1)),AObj.map es],g⟩) (fun (k:Nat)=>(k<=n)) (fun (k:Nat)=>(n-k)) 0 (aO ⟨Af _,Af _,(Ag krf),Af _,(Ag krf),trivial⟩ rfl rfl) ?_ (fun k hi=>?_))
 ·omega
 ·refine vcR [] (lkL [(3,[0,2,7,9,10,11]),(4,[0,2,7,8,9,10]),(5,[0,2,7,8,9,10,19]),(6,[0,2,7,9,10]),(7,[0,2,7,9,10])]) (lkL [(5,[(4,ROrc.kop (i6 (v k)))]),(6,[(2,ROrc.pcall (int u64 (↑(2^k):Int)))])]) (fun Q=>(fun (u1:List AObj)=>(fun (u2:Int)=>(fun (u3:Int)=>(fun (u4:Int)=>(decide (u2<u3)=true->(0<=u2/\u2<(↑24:Int))/\OpOk Tryd.prog R (Oper.mk (some 17) (Op.load 43 (Operand.tmp 16)) 43 "table.go:67" #[Edge.mk 3 Ground.data] none) (evO [Row.mk (some 16) none (ref 0 (k+2)) false (some []) [],Row.mk (some 15) none (ref 0 2) false (some []) [],Row.mk (some 14) none (i6 u2) false (some []) [],Row.mk (some 13) none (ref 0 2) false (some []) []] [(0,ref 0 2),(2,i6 x),(7,int u64 u4),(8,i6 u2),(9,i6 u3),(10,i6 u2)] []) u1 g (i6 (v k)) u1 g/\((v k==x)=true->(∀(hp:List AObj) (g:R.σ),true=true/\Does Tryd.prog R 79 [i6 u2] hp g (ret (int u64 (↑(2^k):Int))) hp g)/\(-9223372036854775808<=u2+1/\u2+1<=9223372036854775807)/\Q AEx.normal (St.mk [(0,ref 0 2),(2,i6 x),(7,int u64 (IntKind.wrap u64 (↑(BitVec.toNat (BitVec.ofInt 64 u4|||BitVec.ofInt 64 (↑(2^k):Int))):Int))),(9,i6 u3),(10,i6 (u2+1))] u1 g))/\((v k==x)=false->(-9223372036854775808<=u2+1/\u2+1<=9223372036854775807)/\Q AEx.normal (St.mk [(0,ref 0 2),(2,i6 x),(7,int u64 u4),(9,i6 u3),(10,i6 (u2+1))] u1 g)))/\(decide (u2<u3)=false->Q (AEx.exit 0) (St.mk [(0,ref 0 2),(2,i6 x),(7,int u64 u4),(9,i6 u3),(10,i6 u2),(11,AV.bool (decide (u2<u3)))] u1 g))) ((↑(aD v x k):Int))) ((↑n:Int))) ((↑k:Int))) ([cO 27 (ah p v (AV.mp 1)),AObj.map es])) ⟨fun c1=>have c1:(↑k:Int)<(↑n:Int):=(of_decide_eq_true c1);⟨omg,?_,fun c2=>have c2:v k=x:=(beq_iff_eq.mp c2);⟨(fun _ _=>⟨rfl,(gz _ _ omg _ _)⟩),omg,?_⟩,fun c2=>have c2:¬v k=x:=(beq_eq_false_iff_ne.mp c2);⟨omg,?_⟩⟩,fun c1=>have c1:¬(↑k:Int)<(↑n:Int):=(of_decide_eq_false c1);?_⟩
  ·exact fh rfl rfl krf rfl (by show _+1<=27;omega) (fq omg omg)
  ·refine(aQ (k+1) (aO ⟨Af _,Af _,(Ag ?_),Af _,(Ag krf),trivial⟩ rfl rfl) ?_ ?_)
   ·show AV.int .u64 _=AV.int .u64 _
    congr 1
    rw[ip,if_pos c2]
    exact Tb.u64_or (bT (Nat.lt_of_lt_of_le (kU v x k) (Nat.pow_le_pow_right dcd omg))) (bT (Nat.pow_lt_pow_right dcd omg))
   ·omega
   ·omega
  ·refine(aQ (k+1) (aO ⟨Af _,Af _,(Ag ?_),Af _,(Ag krf),trivial⟩ rfl rfl) ?_ ?_)
   ·show AV.int .u64 _=AV.int .u64 _
    rw[ip,if_neg c2]
   ·omega
   ·omega
  ·have hk:k=n:=by omega
   subst hk
   refine⟨_,Ar _,vcR [] (lkL [(8,[6])]) (fun _=>[]) (fun (Q:AEx->St R.σ->Prop)=>Q AEx.ret (St.mk [(6,int u64 (↑(aD v x k):Int))] [cO 27 (ah p v (AV.mp 1)),AObj.map es] g)) (?_)⟩
   refine(aq (aR _ _ rfl trivial rfl rfl rfl) (Af _))
def dw (s out:Nat)(l:Lit):Bool:=if l.neg then s.testBit l.atom.toNat else !out.testBit l.atom.toNat
theorem qS (R:Res)(s out:Nat)(l:Lit)(h:0<=l.atom/\l.atom<24)(hs:s<2^24)(ho:out<2^24)(g:R.σ):Does Tryd.prog R 107 [bW l,.ref 0 0,.ref 1 0] [cO 1 (fun _=>.int .u64 s),cO 1 (fun _=>.int .u64 out)] g (.ret (.bool (dw s out l))) [cO 1 (fun _=>.int .u64 s),cO 1 (fun _=>.int .u64 out)] g:=by
 obtain⟨n,hn⟩:∃n:Nat,l.atom=n:=⟨l.atom.toNat,omg⟩
 obtain⟨at',ng⟩:=l
 simp only at hn h
 subst hn
 have hs':=bT hs
 have ho':=bT ho
 refine spW (nt:=25) (rs:=[.tmp 4]) (k0:=2) ?_
 refine vcR [] (lkL [(0,[1,2,3]),(1,[4])]) (lkL [(1,[(6,ROrc.pcall (AV.bool (Nat.testBit s n))),(16,ROrc.pcall (AV.bool (Nat.testBit out n)))])]) (fun Q=>(fun (u1:Bool)=>2<=2/\(ng=true->1<=1)/\(ng=true->1<=2)/\(ng=true->∀(hp:List AObj) (g:R.σ),true=true/\Does Tryd.prog R 71 [int u64 (↑s:Int),i6 (↑n:Int)] hp g (ret (AV.bool (Nat.testBit s n))) hp g)/\((!u1)=true->2<=2)/\((!u1 && !ng)=true->1<=1)/\((!u1 && !ng)=true->1<=2)/\((!u1 && !ng)=true->∀(hp:List AObj) (g:R.σ),true=true/\Does Tryd.prog R 71 [int u64 (↑out:Int),i6 (↑n:Int)] hp g (ret (AV.bool (Nat.testBit out n))) hp g)/\Q AEx.ret (St.mk [(4,AV.bool (bif u1 then true else bif !ng then !Nat.testBit out n else false))] [cO 1 fun x=>int u64 (↑s:Int),cO 1 fun x=>int u64 (↑out:Int),cO 2 (nth [i6 (↑n:Int),AV.bool ng])] g)) (bif ng then Nat.testBit s n else false)) ⟨omg,omg,omg,(fun hgd=>(fun _ _=>⟨rfl,(jo _ _ _ omg omg _ _)⟩)),omg,omg,omg,(fun hgd=>(fun _ _=>⟨rfl,(jo _ _ _ omg omg _ _)⟩)),?_⟩
 refine(aq (cE 2 _ _ rfl trivial omg trivial ⟨(fun j hj=>match j,hj with|0,_=>trivial ),(fun j hj=>match j,hj with|0,_=>trivial ),trivial⟩ krf rfl rfl) (Ag ?_))
 show(AV.bool (bif bif ng then Nat.testBit s n else false then true else bif !ng then !Nat.testBit out n else false))=_
 show AV.bool _=AV.bool _
 unfold dw
 cases ng <;> simp
def cK (s o:Nat)(r:Rule):Nat:=if r.body.l.any (dw s o) then o else o|||2^r.head.toNat
def aZ (l:List Rule)(s o:Nat):Nat:=l.foldl (cK s) o
def dR (l:List Rule)(s:Nat):Nat->Nat->Nat
 |0,o=>o
 |n+1,o=>if aZ l s o=o then o else dR l s n (aZ l s o)
def fol (l:List Rule)(s:Nat):Nat:=dR l s (2^24+1) 0
def aP (r:Rule):Prop:=kT r/\0<=r.head/\r.head<24
theorem qT {s o:Nat}{r:Rule}:o<=cK s o r:=by
 unfold cK
 split
 ·exact Nat.le_refl _
 ·exact Nat.left_le_or
theorem wz {s o:Nat}{r:Rule}(h:r.head<24)(h0:0<=r.head)(ho:o<2^24):cK s o r<2^24:=by
 unfold cK
 split
 ·exact ho
 ·exact Nat.or_lt_two_pow ho (Nat.pow_lt_pow_right dcd omg)
theorem qU {l:List Rule}{s o i:Nat}(h:i<l.length):aZ (l.take (i+1)) s o=cK s (aZ (l.take i) s o) (l.getD i default):=by
 unfold aZ
 rw[List.take_add_one,List.foldl_append,List.getElem?_eq_getElem h,List.getD_eq_getElem?_getD,List.getElem?_eq_getElem h]
 rfl
theorem ne {l:List Rule}{s o:Nat}(h:∀r,r∈l->aP r)(ho:o<2^24):aZ l s o<2^24:=by
 unfold aZ
 induction l generalizing o with
 |nil=>exact ho
 |cons r l ih=>
  have hr:=h r (List.mem_cons_self ..)
  exact ih (fun q hq=>h q (List.mem_cons_of_mem _ hq)) (wz hr.2.2 hr.2.1 ho)
theorem nf (l:List Rule)(s o:Nat):o<=aZ l s o:=by
 unfold aZ
 induction l generalizing o with
 |nil=>exact Nat.le_refl _
 |cons r l ih=>exact Nat.le_trans qT (ih _)
theorem fP {l:List Rule}{i:Nat}(h:i<l.length):l.getD i default∈l:=by
 rw[List.getD_eq_getElem?_getD,List.getElem?_eq_getElem h,Option.getD_some]
 exact List.getElem_mem h
theorem et (R:Res)(a:Int)(ha:0<=a/\a<25)(hp:List AObj)(g:R.σ):Does Tryd.prog R 79 [.int .i64 a] hp g (.ret (.int .u64 ((2^a.toNat:Nat):Int))) hp g:=by
 obtain⟨n,rfl⟩:∃n:Nat,a=n:=⟨a.toNat,omg⟩
 exact gz R n omg hp g
theorem kV (R:Res)(p:Prg)(s:Nat)(hp:List AObj)(hl:p.rules.l.length<1000000)(hr:∀r,r∈p.rules.l->aP r)(hs:s<2^24)(g:R.σ):Does Tryd.prog R 80 [av p,.int .u64 s] hp g (.ret (.int .u64 (fol p.rules.l s))) hp g:=by
 refine bG (fun R g=>?_) (by exact⟨⟨⟨trivial,trivial⟩,trivial⟩,trivial,trivial⟩) R hp g
 refine spW (nt:=34) (rs:=[.tmp 4]) (k0:=0) ?_
 refine vcR [] (lkL [(0,[2,3]),(1,[2,3,5]),(2,[2,3,5,6])]) (fun _=>[]) (fun (Q:AEx->St R.σ->Prop)=>WpC Tryd.prog R 34 0 80 [1,1,0,1,0] Q [Kont.blk 0,Kont.seq [1,1,1]] (St.mk [(2,ref 0 0),(3,ref 1 0),(5,ref 2 0),(6,int u64 1)] [cO 2 (nth [i6 p.atoms,ae p.rules]),cO 1 fun (a:Nat)=>int u64 (↑s:Int),cO 1 fun (a:Nat)=>int u64 0] g)) (?_)
 refine(a8 krf (fun (x:Nat × Nat)=>⟨[(2,ref 0 0),(3,ref 1 0),(5,ref 2 0),(6,.int .u64 x.1)],[cO 2 (nth [.int .i64 p.atoms,ae p.rules]),cO 1 (fun _=>.int .u64 s),cO 1 (fun _=>.int .u64 x.2)],g⟩) (fun (x:Nat × Nat)=>(x.2<2^24/\x.1<2^24/\(x.2=x.1->fol p.rules.l s=x.2)/\(x.2≠x.1->∃f,2^24+1<=f+x.2/\dR p.rules.l s f x.2=fol p.rules.l s))) (fun (x:Nat × Nat)=>(if x.2=x.1 then 0 else 2^24+1-x.2)) (1,0) (toL (h1:=⟨Af _,Af _,Af _,(Ag krf),trivial⟩)) ?_ (fun x hi=>?_))
 ·refine⟨dcd,dcd,fun h=>absurd h dcd,fun _=>⟨2^24+1,Nat.le_refl _,rfl⟩⟩
 ·obtain⟨b,o⟩:=x
  obtain⟨h1,h2,h3,h4⟩:=hi
  simp only at h1 h2 h3 h4
  refine vcR [] (lkL [(3,[2,3,5,12]),(4,[2,3,5,6]),(5,[2,3,5,6,15,16,17])]) (fun _=>[]) (fun Q=>(fun (u1:List AObj)=>(fun (u2:Bool)=>1<=1/\(u2=true->1<=1/\2<=2/\WpC Tryd.prog R 34 0 80 [1,1,0,1,0,0,1,0,1,1,0] Q [Kont.blk 2,Kont.blk 1] (St.mk [(2,ref 0 0),(3,ref 1 0),(5,ref 2 0),(6,int u64 (↑o:Int)),(15,ae p.rules),(16,i6 (↑(List.length p.rules.l):Int)),(17,i6 0)] u1 g))/\(u2=false->Q (AEx.exit 0) (St.mk [(2,ref 0 0),(3,ref 1 0),(5,ref 2 0),(12,AV.bool u2)] u1 g))) ((↑o:Int) != (↑b:Int))) ([cO 2 (nth [i6 p.atoms,ae p.rules]),cO 1 fun x=>int u64 (↑s:Int),cO 1 fun x=>int u64 (↑o:Int)])) ⟨omg,fun c1=>have c1:¬(↑o:Int)=(↑b:Int):=(bne_iff_ne.mp c1);⟨omg,omg,?_⟩,fun c1=>have c1:(↑o:Int)=(↑b:Int):=(bne_eq_false_iff_eq.mp c1);?_⟩
  ·have hne:o≠b:=by omega
   refine(a8 krf (fun (i:Nat)=>⟨[(2,ref 0 0),(3,ref 1 0),(5,ref 2 0),(6,int u64 (o:Int)),(15,ae p.rules),(16,i6 (p.rules.l.length:Int)),(17,.int .i64 i)],[cO 2 (nth [.int .i64 p.atoms,ae p.rules]),cO 1 (fun _=>.int .u64 s),cO 1 (fun _=>.int .u64 (aZ (p.rules.l.take i) s o))],g⟩) (fun (i:Nat)=>(i<=p.rules.l.length)) (fun (i:Nat)=>(p.rules.l.length-i)) 0 (toL (h1:=⟨Af _,Af _,Af _,Af _,Af _,Af _,(Ag krf),trivial⟩)) ?_ (fun i hi=>?_))
   ·exact Nat.zero_le _
   ·rcases Nat.lt_or_ge i p.rules.l.length with hi'|hi'
    ·have hq:=hr _ (fP hi')
     have ht:aZ (p.rules.l.take i) s o<2^24:=ne (fun q hq=>hr q (List.mem_of_mem_take hq)) h1
     have q1:=hq.1.1
     have q2:=hq.1.2
     have q3:=hq.2
     refine vcR [] (lkL [(6,[2,3,5,6,15,16,17,18]),(7,[2,3,5,6,8,15,16,17]),(8,[2,3,5,6,8,9,15,16,17]),(9,[2,3,5,6,8,15,16,17,26]),(10,[2,3,5,6,15,16,17]),(11,[2,3,5,6,15,16,17])]) (lkL [(7,[(3,ROrc.val (Orc.obj (nth [i6 (List.getD p.rules.l i default).head,ao (List.getD p.rules.l i default).body])))]),(8,[(3,ROrc.kcall (AV.bool (List.any (List.getD p.rules.l i default).body.l (dw s (aZ (List.take i p.rules.l) s o)))))]),(10,[(3,ROrc.pcall (int u64 (↑(2^Int.toNat (List.getD p.rules.l i default).head):Int))),(5,ROrc.val (Orc.obj (nth [int u64 (IntKind.wrap u64 (↑(BitVec.toNat (BitVec.ofInt 64 (↑(aZ (List.take i p.rules.l) s o):Int)|||BitVec.ofInt 64 (↑(2^Int.toNat (List.getD p.rules.l i default).head):Int))):Int))])))])]) (fun Q=>(fun (u1:List AObj)=>(fun (u2:AV)=>(fun (u3:Rule)=>(fun (u4:Int)=>(fun (u5:Int)=>(fun (u6:Nat)=>(fun (u7:List (Nat × AV))=>(fun (u8:List AV)=>(fun (u9:Bool)=>(fun (u10:AObj)=>(decide (u5<u4)=true->(0<=u5/\u5<u4)/\2<=2/\2<=2/\(∀(c:Nat),c<2->nth u8 c=am (nth [i6 0,fz Fz.nil 0 0 fun x x_1=>any]) 0 2 (List.brecOn (motive:=fun (x:List AV)=>Nat->AV) u8 nth._f) c)/\2<=2/\(true=true/\Does Tryd.prog R 50 [ao u3.body,fn 107 0 (nth []) 2 (nth [ref 1 0,ref 2 0])] u1 g (ret (AV.bool u9)) u1 g)/\((!u9)=true->Flw Tryd.prog/\1<=1/\1<=2/\(∀(hp:List AObj) (g:R.σ),true=true/\Does Tryd.prog R 79 [i6 u3.head] hp g (ret (int u64 (↑(2^Int.toNat u3.head):Int))) hp g)/\1<=1/\(∀(c:Nat),c<1->nth [u2] c=am (fun (x:Nat)=>int u64 (↑u6:Int)) 0 1 (fun (x:Nat)=>u2) c)/\(-9223372036854775808<=u5+1/\u5+1<=9223372036854775807)/\Q AEx.normal (St.mk u7 [u10,cO 1 fun x=>int u64 (↑s:Int),cO 1 (nth [u2]),cO 2 (nth u8)] g))/\((!u9)=false->(-9223372036854775808<=u5+1/\u5+1<=9223372036854775807)/\Q AEx.normal (St.mk u7 u1 g)))/\(decide (u5<u4)=false->Q (AEx.exit 2) (St.mk [(2,ref 0 0),(3,ref 1 0),(5,ref 2 0),(6,int u64 (↑o:Int)),(15,ae p.rules),(16,i6 u4),(17,i6 u5),(18,AV.bool (decide (u5<u4)))] [u10,cO 1 fun x=>int u64 (↑s:Int),cO 1 fun x=>int u64 (↑u6:Int)] g))) (cO 2 (nth [i6 p.atoms,ae p.rules]))) (List.any u3.body.l (dw s u6))) ([i6 u3.head,ao u3.body])) ([(2,ref 0 0),(3,ref 1 0),(5,ref 2 0),(6,int u64 (↑o:Int)),(15,ae p.rules),(16,i6 u4),(17,i6 (u5+1))])) (aZ (List.take i p.rules.l) s o)) ((↑i:Int))) ((↑(List.length p.rules.l):Int))) (List.getD p.rules.l i default)) (int u64 (IntKind.wrap u64 (↑(BitVec.toNat (BitVec.ofInt 64 (↑(aZ (List.take i p.rules.l) s o):Int)|||BitVec.ofInt 64 (↑(2^Int.toNat (List.getD p.rules.l i default).head):Int))):Int)))) ([cO 2 (nth [i6 p.atoms,ae p.rules]),cO 1 fun x=>int u64 (↑s:Int),cO 1 fun x=>int u64 (↑(aZ (List.take i p.rules.l) s o):Int),cO 2 (nth [i6 (List.getD p.rules.l i default).head,ao (List.getD p.rules.l i default).body])])) ⟨fun c1=>have c1:(↑i:Int)<(↑(List.length p.rules.l):Int):=(of_decide_eq_true c1);⟨omg,omg,omg,(fun c hc=>match c,hc with|0,_=>krf|1,_=>krf ),omg,⟨rfl,(jn _ _ _ _ _ _ _ _ _ _ omg krf (fun r _=>(doS [1,2] 4 (fun R g=>qS R (s) (aZ (List.take i p.rules.l) s o) (r) ?_ omg omg g))))⟩,fun c2=>have c2:List.any (List.getD p.rules.l i default).body.l (dw s (aZ (List.take i p.rules.l) s o))=false:=((Bool.not_eq_true' _).mp c2);⟨krf,omg,omg,(fun _ _=>⟨rfl,(et _ _ omg _ _)⟩),omg,(fun c hc=>match c,hc with|0,_=>krf ),omg,?_⟩,fun c2=>have c2:List.any (List.getD p.rules.l i default).body.l (dw s (aZ (List.take i p.rules.l) s o))=true:=((Bool.not_eq_false' _).mp c2);⟨omg,?_⟩⟩,fun c1=>have c1:¬(↑i:Int)<(↑(List.length p.rules.l):Int):=(of_decide_eq_false c1);?_⟩
     ·exact q2 _ (by assumption)
     ·refine(aQ (i+1) (toS [0,1,2] 4 (hob:=⟨⟨rfl,Nat.le_refl _,fun j hj=>match j,hj with|0,_=>(Af _)|1,_=>(Af _) ⟩,⟨rfl,Nat.le_refl _,fun j hj=>match j,hj with|0,_=>(Af _) ⟩,⟨rfl,Nat.le_refl _,fun j hj=>match j,hj with|0,_=>(Ag ?_) ⟩,trivial⟩)) ?_ ?_)
      ·show AV.int .u64 _=AV.int .u64 _
       congr 1
       rw[qU hi']
       unfold cK
       rw[if_neg (by rw[c2];decide)]
       exact Tb.u64_or (bT ht) (bT (Nat.pow_lt_pow_right dcd omg))
      ·omega
      ·omega
     ·refine(aQ (i+1) (toS [0,1,2] 4 (hob:=⟨⟨rfl,Nat.le_refl _,fun j hj=>match j,hj with|0,_=>(Af _)|1,_=>(Af _) ⟩,⟨rfl,Nat.le_refl _,fun j hj=>match j,hj with|0,_=>(Af _) ⟩,⟨rfl,Nat.le_refl _,fun j hj=>match j,hj with|0,_=>(Ag ?_) ⟩,trivial⟩)) ?_ ?_)
      ·show AV.int .u64 _=AV.int .u64 _
       rw[qU hi']
       unfold cK
       rw[if_pos c2]
      ·omega
      ·omega
     ·exact absurd hi' omg
    ·have hk:i=p.rules.l.length:=by omega
     subst hk
     rw[List.take_length]
     obtain⟨f,e1,e2⟩:=h4 hne
     have hle:=nf p.rules.l s o
     have hlt:=ne (s:=s) hr h1
     obtain⟨f,rfl⟩:∃k,f=k+1:=⟨f-1,omg⟩
     have e3:dR p.rules.l s (f+1) o=if aZ p.rules.l s o=o then o else dR p.rules.l s f (aZ p.rules.l s o):=rfl
     rw[e3] at e2
     refine vcR [] (lkL [(6,[2,3,5,6,15,16,17,18]),(7,[2,3,5,6,8,15,16,17]),(8,[2,3,5,6,8,9,15,16,17]),(9,[2,3,5,6,8,15,16,17,26]),(10,[2,3,5,6,15,16,17]),(11,[2,3,5,6,15,16,17])]) (lkL [(7,[(3,ROrc.val (Orc.obj (nth [i6 (List.getD p.rules.l (List.length p.rules.l) default).head,ao (List.getD p.rules.l (List.length p.rules.l) default).body])))]),(8,[(3,ROrc.kcall (AV.bool (List.any (List.getD p.rules.l (List.length p.rules.l) default).body.l (dw s (aZ p.rules.l s o)))))]),(10,[(3,ROrc.pcall (int u64 (↑(2^Int.toNat (List.getD p.rules.l (List.length p.rules.l) default).head):Int))),(5,ROrc.val (Orc.obj (nth [int u64 (IntKind.wrap u64 (↑(BitVec.toNat (BitVec.ofInt 64 (↑(aZ p.rules.l s o):Int)|||BitVec.ofInt 64 (↑(2^Int.toNat (List.getD p.rules.l (List.length p.rules.l) default).head):Int))):Int))])))])]) (fun Q=>(fun (u1:Rule)=>(fun (u2:Int)=>(fun (u3:List AObj)=>(fun (u4:AV)=>(fun (u5:List (Nat × AV))=>(fun (u6:Bool)=>(fun (u7:List AV)=>(fun (u8:AObj)=>(decide (u2<u2)=true->(0<=u2/\u2<u2)/\2<=2/\2<=2/\(∀(c:Nat),c<2->nth u7 c=am (nth [i6 0,fz Fz.nil 0 0 fun x x_1=>any]) 0 2 (List.brecOn (motive:=fun (x:List AV)=>Nat->AV) u7 nth._f) c)/\2<=2/\(true=true/\Does Tryd.prog R 50 [ao u1.body,fn 107 0 (nth []) 2 (nth [ref 1 0,ref 2 0])] u3 g (ret (AV.bool u6)) u3 g)/\((!u6)=true->Flw Tryd.prog/\1<=1/\1<=2/\(∀(hp:List AObj) (g:R.σ),true=true/\Does Tryd.prog R 79 [i6 u1.head] hp g (ret (int u64 (↑(2^Int.toNat u1.head):Int))) hp g)/\1<=1/\(∀(c:Nat),c<1->nth [u4] c=am (fun (x:Nat)=>int u64 (↑(aZ p.rules.l s o):Int)) 0 1 (fun (x:Nat)=>u4) c)/\(-9223372036854775808<=u2+1/\u2+1<=9223372036854775807)/\Q AEx.normal (St.mk u5 [u8,cO 1 fun x=>int u64 (↑s:Int),cO 1 (nth [u4]),cO 2 (nth u7)] g))/\((!u6)=false->(-9223372036854775808<=u2+1/\u2+1<=9223372036854775807)/\Q AEx.normal (St.mk u5 u3 g)))/\(decide (u2<u2)=false->Q (AEx.exit 2) (St.mk [(2,ref 0 0),(3,ref 1 0),(5,ref 2 0),(6,int u64 (↑o:Int)),(15,ae p.rules),(16,i6 u2),(17,i6 u2),(18,AV.bool (decide (u2<u2)))] [u8,cO 1 fun x=>int u64 (↑s:Int),cO 1 fun x=>int u64 (↑(aZ p.rules.l s o):Int)] g))) (cO 2 (nth [i6 p.atoms,ae p.rules]))) ([i6 u1.head,ao u1.body])) (List.any u1.body.l (dw s (aZ p.rules.l s o)))) ([(2,ref 0 0),(3,ref 1 0),(5,ref 2 0),(6,int u64 (↑o:Int)),(15,ae p.rules),(16,i6 u2),(17,i6 (u2+1))])) (int u64 (IntKind.wrap u64 (↑(BitVec.toNat (BitVec.ofInt 64 (↑(aZ p.rules.l s o):Int)|||BitVec.ofInt 64 (↑(2^Int.toNat u1.head):Int))):Int)))) ([cO 2 (nth [i6 p.atoms,ae p.rules]),cO 1 fun x=>int u64 (↑s:Int),cO 1 fun x=>int u64 (↑(aZ p.rules.l s o):Int),cO 2 (nth [i6 u1.head,ao u1.body])])) ((↑(List.length p.rules.l):Int))) (List.getD p.rules.l (List.length p.rules.l) default)) ⟨fun c1=>have c1:(↑(List.length p.rules.l):Int)<(↑(List.length p.rules.l):Int):=(of_decide_eq_true c1);⟨omg,omg,omg,(fun c hc=>match c,hc with|0,_=>krf|1,_=>krf ),omg,⟨rfl,(jn _ _ _ _ _ _ _ _ _ _ (by simp at * <;> omega) krf (fun r _=>(doS [1,2] 4 (fun R g=>qS R (s) (aZ p.rules.l s o) (r) (by simp at * <;> omega) omg omg g))))⟩,fun c2=>have c2:List.any (List.getD p.rules.l (List.length p.rules.l) default).body.l (dw s (aZ p.rules.l s o))=false:=((Bool.not_eq_true' _).mp c2);⟨krf,omg,omg,(fun _ _=>⟨rfl,(et _ _ (by simp at * <;> omega) _ _)⟩),omg,(fun c hc=>match c,hc with|0,_=>krf ),omg,?_⟩,fun c2=>have c2:List.any (List.getD p.rules.l (List.length p.rules.l) default).body.l (dw s (aZ p.rules.l s o))=true:=((Bool.not_eq_false' _).mp c2);⟨omg,?_⟩⟩,fun c1=>have c1:¬(↑(List.length p.rules.l):Int)<(↑(List.length p.rules.l):Int):=(of_decide_eq_false c1);?_⟩
     any_goals (exfalso;omega)
     refine⟨_,Ar _,(aQ (o,aZ p.rules.l s o) (aO ⟨Af _,Af _,Af _,Af _,trivial⟩ rfl rfl) ?_ ?_)⟩
     ·refine⟨hlt,h1,fun h=>?_,fun h=>⟨f,?_,?_⟩⟩
      ·simp only at h ⊢
       rw[if_pos h] at e2
       rw[h];exact e2.symm
      ·simp only at h ⊢
       omega
      ·simp only at h ⊢
       rw[if_neg h] at e2
       exact e2
     ·simp only
      rw[if_neg hne]
      split <;> omega
  ·have hb:o=b:=by omega
   refine⟨_,Ar _,vcR [] (lkL [(12,[4])]) (fun _=>[]) (fun Q=>1<=1/\Q AEx.ret (St.mk [(4,int u64 (↑o:Int))] [cO 2 (nth [i6 p.atoms,ae p.rules]),cO 1 fun x=>int u64 (↑s:Int),cO 1 fun x=>int u64 (↑o:Int)] g)) ⟨omg,?_⟩⟩
   refine(aq (bA _ _ rfl trivial trivial rfl) (Ag ?_))
   show(int u64 (↑o:Int))=_
   show AV.int .u64 _=AV.int .u64 _
   rw[h3 hb]
def gA (v:Nat->Int)(s:Nat)(l:Lit):Bool:=br v l==1||(!l.neg&&s.testBit l.atom.toNat)
theorem nh (R:Res)(s:Nat)(a:Int)(hs:s<2^24)(ha:0<=a/\a<24)(hp:List AObj)(g:R.σ):Does Tryd.prog R 71 [.int .u64 s,.int .i64 a] hp g (.ret (.bool (s.testBit a.toNat))) hp g:=by
 obtain⟨n,rfl⟩:∃n:Nat,a=n:=⟨a.toNat,omg⟩
 exact jo R s n hs omg hp g
theorem wA (R:Res)(p:Prg)(v:Nat->Int)(es:List (Value × AV))(s:Nat)(l:Lit)(h:0<=l.atom/\l.atom<24)(hs:s<2^24)(g:R.σ):Does Tryd.prog R 122 [bW l,.ref 2 0,.ref 3 0] [cO 27 (ah p v (.mp 1)),.map es,cO 1 (fun _=>.ref 0 0),cO 1 (fun _=>.int .u64 s)] g (.ret (.bool (gA v s l))) [cO 27 (ah p v (.mp 1)),.map es,cO 1 (fun _=>.ref 0 0),cO 1 (fun _=>.int .u64 s)] g:=by
 refine spW (nt:=22) (rs:=[.tmp 4]) (k0:=4) ?_
 refine vcR [] (lkL [(0,[1,2,3]),(1,[4])]) (lkL [(1,[(4,ROrc.kcall (i6 (br v l))),(14,ROrc.pcall (AV.bool (Nat.testBit s (Int.toNat l.atom))))])]) (fun Q=>(fun (u1:List AObj)=>Flw Tryd.prog/\1<=1/\2<=2/\(true=true/\Does Tryd.prog R 119 [ref 0 2,bW l] u1 g (ret (i6 (br v l))) u1 g)/\((!br v l==1)=true->2<=2)/\((!br v l==1 && !l.neg)=true->1<=1)/\((!br v l==1 && !l.neg)=true->1<=2)/\((!br v l==1 && !l.neg)=true->∀(hp:List AObj) (g:R.σ),true=true/\Does Tryd.prog R 71 [int u64 (↑s:Int),i6 l.atom] hp g (ret (AV.bool (Nat.testBit s (Int.toNat l.atom)))) hp g)/\Q AEx.ret (St.mk [(4,AV.bool (bif br v l==1 then true else bif !l.neg then Nat.testBit s (Int.toNat l.atom) else false))] u1 g)) ([cO 27 (ah p v (AV.mp 1)),AObj.map es,cO 1 fun x=>ref 0 0,cO 1 fun x=>int u64 (↑s:Int),cO 2 (nth [i6 l.atom,AV.bool l.neg])])) ⟨krf,omg,omg,⟨rfl,(doS [0,1] 5 (fun R g=>qR R (p) (v) (es) (l) omg g))⟩,omg,omg,omg,(fun hgd=>(fun _ _=>⟨rfl,(nh _ _ _ omg omg _ _)⟩)),?_⟩
 refine(aq (cE 4 _ _ rfl trivial omg trivial ⟨(fun _ _=>(by first|exact trivial|apply bj)),(fun j hj=>match j,hj with|0,_=>(show 1<=4 by omega) ),(fun j hj=>match j,hj with|0,_=>trivial ),trivial⟩ krf rfl rfl) (Ag krf))
def bX (v:Nat->Int)(s:Nat)(r:Rule):Bool:= !r.body.l.any (gA v s)
theorem wB (R:Res)(p:Prg)(v:Nat->Int)(es:List (Value × AV))(s:Nat)(r:Rule)(h:kT r)(hs:s<2^24)(g:R.σ):Does Tryd.prog R 121 [bS r,.ref 2 0,.ref 3 0] [cO 27 (ah p v (.mp 1)),.map es,cO 1 (fun _=>.ref 0 0),cO 1 (fun _=>.int .u64 s)] g (.ret (.bool (bX v s r))) [cO 27 (ah p v (.mp 1)),.map es,cO 1 (fun _=>.ref 0 0),cO 1 (fun _=>.int .u64 s)] g:=by
 have h1:=h.1
 have hb:=h.2
 refine spW (nt:=10) (rs:=[.tmp 4]) (k0:=4) ?_
 refine vcR [] (lkL [(0,[1,2,3]),(1,[4])]) (lkL [(1,[(3,ROrc.kcall (AV.bool (List.any r.body.l (gA v s))))])]) (fun Q=>(fun (u1:List AObj)=>2<=2/\(true=true/\Does Tryd.prog R 50 [ao r.body,fn 122 0 (nth []) 2 (nth [ref 2 0,ref 3 0])] u1 g (ret (AV.bool (List.any r.body.l (gA v s)))) u1 g)/\Q AEx.ret (St.mk [(4,AV.bool !List.any r.body.l (gA v s))] u1 g)) ([cO 27 (ah p v (AV.mp 1)),AObj.map es,cO 1 fun x=>ref 0 0,cO 1 fun x=>int u64 (↑s:Int),cO 2 (nth [i6 r.head,ao r.body])])) ⟨omg,⟨rfl,(jn _ _ _ _ _ _ _ _ _ _ omg krf (fun r _=>(doS [0,1,2,3] 5 (fun R g=>wA R (p) (v) (es) (s) (r) ?_ omg g))))⟩,?_⟩
 ·exact hb _ (by assumption)
 ·refine(aq (cE 4 _ _ rfl trivial omg trivial ⟨(fun _ _=>(by first|exact trivial|apply bj)),(fun j hj=>match j,hj with|0,_=>(show 1<=4 by omega) ),(fun j hj=>match j,hj with|0,_=>trivial ),trivial⟩ krf rfl rfl) (Ag krf))
def ofH (l:List Rule)(a:Int):List Rule:=l.filter (fun r=>r.head==a)
structure HeadsOk (es:List (Value × AV))(l:List Rule):Prop where
 key:∀e,e∈es->∃a:Nat,e.1=.int .i64 a/\a<24
 hit:∀a,ofH l a≠[]->(∃e,e∈es/\e.1=.int .i64 a)/\∀e,e∈es->e.1=.int .i64 a->e.2=ae ⟨ofH l a,.opn⟩
 miss:∀a,ofH l a=[]->∀e,e∈es->e.1≠.int .i64 a
theorem gC {a:Nat}(h:a<24):∃l,Go.keyOf Tryd.prog 3 (.int .i64 a)=some l:=by
 have w:(List.range 24).all (fun n=>(Lit.int .i64 (n:Int)).wf)=true:=by decide
 exact⟨_,Go.Maps.keyOf_int_mk (q:=.i64) krf ((List.all_eq_true.1 w) a (List.mem_range.2 h))⟩
theorem wC (R:Res)(p:Prg)(v:Nat->Int)(es:List (Value × AV))(s:Nat)(a:Nat)(k:Fz)(hk:(ofH p.rules.l a=[]->k=.nil)/\(ofH p.rules.l a≠[]->k=.opn))(ha:a<24)(hes:HeadsOk es p.rules.l)(hl:p.rules.l.length<1000000)(hr:∀r,r∈p.rules.l->aP r)(hs:s<2^24)(g:R.σ):Does Tryd.prog R 115 [.ref 0 0,.int .i64 a,.int .u64 s] [cO 27 (ah p v (.mp 1)),.map es] g (.ret (.bool ((ofH p.rules.l a).any (bX v s)))) [cO 27 (ah p v (.mp 1)),.map es] g:=by
 refine spW (nt:=15) (rs:=[.tmp 6]) (k0:=2) ?_
 have hlf:(ofH p.rules.l a).length<1000000:=Nat.lt_of_le_of_lt (List.length_filter_le _ _) hl
 have hrf:∀r,r∈ofH p.rules.l a->kT r:=fun r h=>(hr r (List.mem_filter.1 h |>.1)).1
 refine vcR [] (lkL [(0,[1,3,5]),(1,[6])]) (lkL [(1,[(5,ROrc.kop (ae (KL.mk (ofH p.rules.l (↑a:Int)) k))),(7,ROrc.kcall (AV.bool (List.any (KL.mk (List.filter (fun (r:Rule)=>r.head==(↑a:Int)) p.rules.l) k).l (bX v s))))])]) (fun Q=>(fun (u1:List AObj)=>(fun (u2:AV)=>(fun (u3:AV)=>1<=1/\27<=27/\OpOk Tryd.prog R (Oper.mk (some 12) (Op.lookup 96 (Operand.tmp 10) (Operand.tmp 11) false) 22 "table.go:109" #[Edge.mk 3 Ground.data,Edge.mk 4 Ground.data] none) (evO [Row.mk (some 11) none (i6 (↑a:Int)) false (some []) [],Row.mk (some 10) none (AV.mp 1) false (some []) [0],Row.mk (some 9) none (ref 0 26) false (some []) [],Row.mk (some 8) none (ref 0 0) false (some []) [],Row.mk (some 7) none (ref 0 0) false (some []) [2]] [(1,i6 (↑a:Int)),(3,ref 2 0),(5,ref 3 0)] []) u1 g u2 u1 g/\(true=true/\Does Tryd.prog R 120 [u2,fn 121 0 (nth []) 2 (nth [ref 2 0,ref 3 0])] u1 g (ret u3) u1 g)/\Q AEx.ret (St.mk [(6,u3)] u1 g)) (AV.bool (List.any (List.filter (fun (r:Rule)=>r.head==(↑a:Int)) p.rules.l) (bX v s)))) (fz k 2 (List.length (ofH p.rules.l (↑a:Int))) fun i=>bx (List.getD (ofH p.rules.l (↑a:Int)) i default))) ([cO 27 (ah p v (AV.mp 1)),AObj.map es,cO 1 fun a=>ref 0 0,cO 1 fun a=>int u64 (↑s:Int)])) ⟨omg,omg,?_,⟨rfl,(wi _ (KL.mk (List.filter (fun (r:Rule)=>r.head==(↑a:Int)) p.rules.l) k) _ _ _ _ _ _ _ _ (by assumption) krf (fun r _=>(wB _ _ _ _ _ _ ?_ omg _)))⟩,?_⟩
 ·have hks:∀e∈es,∃l,Go.keyOf Tryd.prog 3 e.1=some l:=fun e he=>by
   obtain⟨b,e1,e2⟩:=hes.key e he
   rw[e1]
   exact gC e2
  by_cases h0:ofH p.rules.l a=[]
  ·rw[hk.1 h0,h0]
   refine qi (t:=96) (kt:=3) (vt:=22) (m:=.tmp 10) (x:=.tmp 11) (ob:=1) (es:=es) (kv:=.int .i64 a) rfl krf (Go.Maps.int_keyed (q:=.i64) krf) rfl (by exact Le.nil) rfl rfl (fun FM Z v h=>h) (gC ha) hks (hes.miss a h0)
  ·rw[hk.2 h0]
   exact qh (t:=96) (kt:=3) (vt:=22) (m:=.tmp 10) (x:=.tmp 11) (ob:=1) (es:=es) (kv:=.int .i64 a) (d:=ae ⟨ofH p.rules.l a,.opn⟩) rfl krf (Go.Maps.int_keyed (q:=.i64) krf) rfl rfl (fun FM Z v h=>h) (gC ha) hks (hes.hit a h0).1 (hes.hit a h0).2
 ·exact hrf _ (by assumption)
 ·refine(aq (cE 2 _ _ rfl trivial omg trivial ⟨(fun _ _=>(by first|exact trivial|apply bj)),trivial⟩ krf rfl rfl) (Ag krf))
theorem qV (R:Res)(p:Prg)(v:Nat->Int)(es:List (Value × AV))(s:Nat)(a:Nat)(ha:a<24)(hes:HeadsOk es p.rules.l)(hl:p.rules.l.length<1000000)(hr:∀r,r∈p.rules.l->aP r)(hs:s<2^24)(g:R.σ):Does Tryd.prog R 115 [.ref 0 0,.int .i64 a,.int .u64 s] [cO 27 (ah p v (.mp 1)),.map es] g (.ret (.bool ((ofH p.rules.l a).any (bX v s)))) [cO 27 (ah p v (.mp 1)),.map es] g:=
 wC R p v es s a (if ofH p.rules.l a=[] then .nil else .opn) ⟨fun h=>if_pos h,fun h=>if_neg h⟩ ha hes hl hr hs g
theorem iq (R:Res)(is:Bool)(h:is=true)(hp:List AObj)(g:R.σ):Does Tryd.prog R 140 [.bool is] hp g (.ret (.tup 0 (nth []))) hp g:=by
 subst h
 refine bG (fun R g=>?_) (by exact⟨trivial,trivial⟩) R hp g
 refine spW (nt:=6) (rs:=[]) (k0:=0) ?_
 refine vcR [[1,0]] (lkL [(0,[3])]) (fun _=>[]) (fun Q=>(false=true->WpC Tryd.prog R 6 0 140 [1,0] Q [] (St.mk [(3,AV.bool false)] [] g))/\(false=false->Q AEx.normal (St.mk [(3,AV.bool false)] [] g))) ⟨fun h=>(nomatch h),fun _=>?_⟩
 refine(aq (aR _ _ rfl trivial rfl rfl rfl) (Af _))
theorem ni (R:Res)(is:Bool)(h:is=false)(hp:List AObj)(g:R.σ):Does Tryd.prog R 140 [.bool is] hp g (.pan (.ifc 145 (.agg 0 (nth [])))) hp g:=by
 subst h
 refine bG (fun R g=>?_) (by exact⟨trivial,trivial⟩) R hp g
 refine spW (nt:=6) (rs:=[]) (k0:=0) ?_
 refine vcR [[1,1]] (lkL [(0,[3])]) (fun _=>[]) (fun Q=>(true=true->Q (AEx.pan (ifc 145 (agg 0 (nth [])))) (St.mk [] [] g))/\(true=false->WpC Tryd.prog R 6 0 140 [1,1] Q [] (St.mk [(3,AV.bool true)] [] g))) ⟨fun _=>?_,fun h=>(nomatch h)⟩
 refine(uQ (P:=Tryd.prog) (rs:=[]) rfl rfl (Af _))
def kW (s:Step):AV:=if s.rule = -1 then .ifc 148 (dd s) else .ifc 149 (dd s)
theorem wD (R:Res)(s:Step)(hp:List AObj)(g:R.σ):Does Tryd.prog R 68 [dd s] hp g (.ret (kW s)) hp g:=by
 refine bG (fun R g=>?_) (by exact⟨⟨⟨trivial,trivial⟩,trivial⟩,trivial⟩) R hp g
 refine spW (nt:=12) (rs:=[.tmp 2]) (k0:=0) ?_
 refine vcR [] (lkL [(0,[1]),(1,[1,5]),(2,[2]),(3,[2])]) (fun _=>[]) (fun Q=>1<=2/\((s.rule == -1)=true->2<=2/\Q AEx.ret (St.mk [(2,ifc 148 (dd s))] [cO 2 (nth [i6 s.rule,aj s.atoms])] g))/\((s.rule == -1)=false->2<=2/\Q AEx.ret (St.mk [(2,ifc 149 (dd s))] [cO 2 (nth [i6 s.rule,aj s.atoms])] g))) ⟨omg,fun c1=>have c1:s.rule = -1:=(beq_iff_eq.mp c1);⟨omg,?_⟩,fun c1=>have c1:¬s.rule = -1:=(beq_eq_false_iff_ne.mp c1);⟨omg,?_⟩⟩
 ·refine(aq (bA _ _ rfl trivial ⟨⟨trivial,trivial⟩,trivial⟩ rfl) (Ag ?_))
  show(ifc 148 (dd s))=_
  ·unfold kW
   rw[if_pos c1]
 ·refine(aq (bA _ _ rfl trivial ⟨⟨trivial,trivial⟩,trivial⟩ rfl) (Ag ?_))
  show(ifc 149 (dd s))=_
  ·unfold kW
   rw[if_neg c1]
def dS (p:Prg)(v:Nat->Int)(s:Step):Bool:=decide (0<=s.rule/\s.rule<=(p.rules.l.length:Int)-1)&&(s.atoms.l.length==1&&(s.atoms.l.getD 0 0==(p.rules.l.getD s.rule.toNat default).head&&(v (p.rules.l.getD s.rule.toNat default).head.toNat==3&&cF v (p.rules.l.getD s.rule.toNat default))))
def dh (v:Nat->Int)(a:Nat)(x:Int):Nat->Int:=fun b=>if b=a then x else v b
def fQ (p:Prg)(v:Nat->Int)(s:Step):Nat->Int:=dh v (p.rules.l.getD s.rule.toNat default).head.toNat 2
theorem qW {p:Prg}{v:Nat->Int}{m:AV}{k a:Nat}{x:Int}(e:k=a+2)(ha:a<24){j:Nat}(f:Nat->AV)(hf:f 0=.int .i64 x):am (ah p v m) k 1 f j=ah p (dh v a x) m j:=by
 subst e
 rw[dP]
 unfold ah dh
 by_cases h:j=a+2
 ·subst h
  rw[if_pos omg,if_neg omg,if_neg omg,if_pos omg,show a+2-(a+2)=0 by omega,hf,if_pos omg]
 ·rw[if_neg omg]
  split
  ·rfl
  ·split
   ·rfl
   ·split
    ·rw[if_neg omg]
    ·rfl
theorem wE (R:Res)(p:Prg)(v:Nat->Int)(es:List (Value × AV))(s:Step)(hl:p.rules.l.length<1000000)(hr:∀r,r∈p.rules.l->aP r)(h:dS p v s=false)(g:R.σ):Does Tryd.prog R 141 [dd s,.ref 0 0] [cO 27 (ah p v (.mp 1)),.map es] g (.pan (.ifc 145 (.agg 0 (nth [])))) [cO 27 (ah p v (.mp 1)),.map es] g:=by
 by_cases hA:0<=s.rule/\s.rule<=(p.rules.l.length:Int)-1
 ·have hq:=hr _ (fP (show s.rule.toNat<p.rules.l.length by omega))
  have q1:=hq.1
  have q2:=hq.2
  by_cases hB:(s.atoms.l.length:Int)=1
  ·have hm:(bif (bif (s.atoms.l.getD 0 0==(p.rules.l.getD s.rule.toNat default).head) then(v (p.rules.l.getD s.rule.toNat default).head.toNat==3) else false) then cF v (p.rules.l.getD s.rule.toNat default) else false)=false:=by
    unfold dS at h
    rw[decide_eq_true hA,show(s.atoms.l.length==1)=true by rw[beq_iff_eq];omega] at h
    revert h
    cases (s.atoms.l.getD 0 0==(p.rules.l.getD s.rule.toNat default).head) <;> cases (v (p.rules.l.getD s.rule.toNat default).head.toNat==3) <;> cases cF v (p.rules.l.getD s.rule.toNat default) <;> simp
   refine spW (nt:=66) (rs:=[]) (k0:=2) ?_
   refine vcR [] (lkL [(0,[1,2]),(1,[1,2]),(2,[1,2,4]),(3,[1,4])]) (lkL [(1,[(10,ROrc.pcall (AV.bool (decide (0<=s.rule/\s.rule<=(↑(List.length p.rules.l):Int)-1)))),(18,ROrc.pcall (tup 0 (nth [])))]),(2,[(11,ROrc.val (Orc.obj (nth [i6 (List.getD p.rules.l (Int.toNat s.rule) default).head,ao (List.getD p.rules.l (Int.toNat s.rule) default).body])))]),(3,[(15,ROrc.kop (i6 (v (Int.toNat (List.getD p.rules.l (Int.toNat s.rule) default).head)))),(23,ROrc.kcall (AV.bool (cF v (List.getD p.rules.l (Int.toNat s.rule) default)))),(25,ROrc.cpan (ifc 145 (agg 0 (nth []))) [cO 27 (ah p v (AV.mp 1)),AObj.map es,cO 2 (nth [i6 s.rule,aj s.atoms]),cO 2 (nth [i6 (List.getD p.rules.l (Int.toNat s.rule) default).head,ao (List.getD p.rules.l (Int.toNat s.rule) default).body])] g)])]) (fun Q=>(fun (u1:Rule)=>(fun (u2:List AObj)=>(fun (u3:Int)=>(fun (u4:Bool)=>(fun (u5:Bool)=>(fun (u6:Bool)=>(fun (u7:Bool)=>(fun (u8:Option (List Nat))=>(fun (u9:Option (Nat × Bool))=>u7=true/\1<=2/\2<=27/\(-9223372036854775808<=u3/\u3<=9223372036854775807)/\(∀(hp:List AObj) (g:R.σ),true=true/\Does Tryd.prog R 58 [i6 s.rule,i6 0,i6 u3] hp g (ret (AV.bool u6)) hp g)/\(u6=true->2<=2)/\(∀(hp:List AObj) (g:R.σ),true=true/\Does Tryd.prog R 140 [AV.bool (bif u6 then(↑(List.length s.atoms.l):Int)==1 else false)] hp g (ret (tup 0 (nth []))) hp g)/\u7=true/\2<=27/\1<=2/\(0<=s.rule/\s.rule<(↑(List.length p.rules.l):Int))/\2<=2/\2<=2/\(∀(c:Nat),c<2->nth [i6 u1.head,ao u1.body] c=am (nth [i6 0,fz Fz.nil 0 0 fun x x_1=>any]) 0 2 (List.brecOn (motive:=fun (x:List AV)=>Nat->AV) [i6 u1.head,ao u1.body] nth._f) c)/\u7=true/\2<=2/\((↑0:Int)<=0/\0<(↑(List.length s.atoms.l):Int))/\1<=1/\1<=2/\(u4=true->1<=2)/\(u4=true->0<=u1.head/\u1.head<(↑24:Int))/\(u4=true->OpOk Tryd.prog R (Oper.mk (some 49) (Op.load 43 (Operand.tmp 48)) 43 "table.go:147" #[Edge.mk 14 Ground.data,Edge.mk 8 Ground.guard] u9) (evO [Row.mk (some 48) u9 (ref 0 (Int.toNat u1.head+2)) false u8 [],Row.mk (some 47) u9 (ref 0 2) false u8 [],Row.mk (some 46) u9 (ref 0 0) false u8 [],Row.mk (some 45) u9 (i6 u1.head) false u8 [3],Row.mk (some 44) u9 (ref 3 0) false u8 [],Row.mk (some 43) u9 (ref 0 0) false u8 [],Row.mk (some 42) none (AV.bool u4) false u8 [],Row.mk (some 41) none (AV.bool u4) false u8 [],Row.mk (some 40) none (i6 u1.head) false u8 [3],Row.mk (some 39) none (ref 3 0) false u8 [],Row.mk (some 38) none (i6 (List.getD s.atoms.l 0 0)) false u8 [],Row.mk (some 37) none (fp 1 fun x=>i6 (List.getD s.atoms.l 0 0)) false u8 [],Row.mk (some 36) none (aj s.atoms) false u8 [2],Row.mk (some 35) none (ref 2 1) false u8 [],Row.mk (some 34) none (ref 2 0) false u8 []] [(1,ref 0 0),(2,ref 2 0),(4,ref 3 0)] [(8,true)]) u2 g (i6 (v (Int.toNat u1.head))) u2 g)/\(u5=true->2<=2)/\(u5=true->true=true/\Does Tryd.prog R 114 [ref 0 2,bS u1] u2 g (ret (AV.bool (cF v u1))) u2 g)/\(true=true/\Does Tryd.prog R 140 [AV.bool (bif u5 then cF v u1 else false)] u2 g (Oc.pan (ifc 145 (agg 0 (nth [])))) u2 g)/\Q (AEx.pan (ifc 145 (agg 0 (nth [])))) (St.mk [(1,ref 0 0),(4,ref 3 0)] u2 g)) (some (8,true))) (some [])) (Tables.follows Tryd.prog.toTables Departure.mixedOrders)) (decide (0<=s.rule/\s.rule<=u3))) (bif u4 then v (Int.toNat u1.head)==3 else false)) (List.getD s.atoms.l 0 0==u1.head)) ((↑(List.length p.rules.l):Int)-1)) ([cO 27 (ah p v (AV.mp 1)),AObj.map es,cO 2 (nth [i6 s.rule,aj s.atoms]),cO 2 (nth [i6 u1.head,ao u1.body])])) (List.getD p.rules.l (Int.toNat s.rule) default)) ⟨krf,omg,omg,omg,(fun _ _=>⟨rfl,(d9 _ _ _ _ _ _)⟩),omg,(fun _ _=>⟨rfl,(iq _ _ (by simp at * <;> omega) _ _)⟩),krf,omg,omg,omg,omg,omg,(fun c hc=>match c,hc with|0,_=>krf|1,_=>krf ),krf,omg,omg,omg,omg,omg,omg,?_,omg,(fun hgd=>⟨rfl,(doS [0,1] 4 (fun R g=>nc R (p) (v) (es) (List.getD p.rules.l (Int.toNat s.rule) default) omg g))⟩),⟨rfl,(ni _ _ omg _ _)⟩,?_⟩
   ·intro _
    exact fh rfl rfl krf rfl (by show _+1<=27;omega) (fq omg omg)
   ·refine(mE (P:=Tryd.prog) (rs:=[]) 2 omg trivial ⟨(fun _ _=>(by first|exact trivial|apply bj)),trivial⟩ krf rfl (Af _))
  ·refine spW (nt:=66) (rs:=[]) (k0:=2) ?_
   refine vcR [] (lkL [(0,[1,2]),(1,[1,2])]) (lkL [(1,[(10,ROrc.pcall (AV.bool (decide (0<=s.rule/\s.rule<=(↑(List.length p.rules.l):Int)-1)))),(18,ROrc.cpan (ifc 145 (agg 0 (nth []))) [cO 27 (ah p v (AV.mp 1)),AObj.map es,cO 2 (nth [i6 s.rule,aj s.atoms])] g)])]) (fun Q=>(fun (u1:Int)=>(fun (u2:List AObj)=>(fun (u3:Bool)=>Flw Tryd.prog/\1<=2/\2<=27/\(-9223372036854775808<=u1/\u1<=9223372036854775807)/\(∀(hp:List AObj) (g:R.σ),true=true/\Does Tryd.prog R 58 [i6 s.rule,i6 0,i6 u1] hp g (ret (AV.bool u3)) hp g)/\(u3=true->2<=2)/\(true=true/\Does Tryd.prog R 140 [AV.bool (bif u3 then(↑(List.length s.atoms.l):Int)==1 else false)] u2 g (Oc.pan (ifc 145 (agg 0 (nth [])))) u2 g)/\Q (AEx.pan (ifc 145 (agg 0 (nth [])))) (St.mk [(1,ref 0 0),(2,ref 2 0)] u2 g)) (decide (0<=s.rule/\s.rule<=u1))) ([cO 27 (ah p v (AV.mp 1)),AObj.map es,cO 2 (nth [i6 s.rule,aj s.atoms])])) ((↑(List.length p.rules.l):Int)-1)) ⟨krf,omg,omg,omg,(fun _ _=>⟨rfl,(d9 _ _ _ _ _ _)⟩),omg,⟨rfl,(ni _ _ (by simp at * <;> omega) _ _)⟩,?_⟩
   refine(mE (P:=Tryd.prog) (rs:=[]) 2 omg trivial ⟨(fun _ _=>(by first|exact trivial|apply bj)),trivial⟩ krf rfl (Af _))
 ·refine spW (nt:=66) (rs:=[]) (k0:=2) ?_
  refine vcR [] (lkL [(0,[1,2]),(1,[1,2])]) (lkL [(1,[(10,ROrc.pcall (AV.bool (decide (0<=s.rule/\s.rule<=(↑(List.length p.rules.l):Int)-1)))),(18,ROrc.cpan (ifc 145 (agg 0 (nth []))) [cO 27 (ah p v (AV.mp 1)),AObj.map es,cO 2 (nth [i6 s.rule,aj s.atoms])] g)])]) (fun Q=>(fun (u1:Int)=>(fun (u2:List AObj)=>(fun (u3:Bool)=>Flw Tryd.prog/\1<=2/\2<=27/\(-9223372036854775808<=u1/\u1<=9223372036854775807)/\(∀(hp:List AObj) (g:R.σ),true=true/\Does Tryd.prog R 58 [i6 s.rule,i6 0,i6 u1] hp g (ret (AV.bool u3)) hp g)/\(u3=true->2<=2)/\(true=true/\Does Tryd.prog R 140 [AV.bool (bif u3 then(↑(List.length s.atoms.l):Int)==1 else false)] u2 g (Oc.pan (ifc 145 (agg 0 (nth [])))) u2 g)/\Q (AEx.pan (ifc 145 (agg 0 (nth [])))) (St.mk [(1,ref 0 0),(2,ref 2 0)] u2 g)) (decide (0<=s.rule/\s.rule<=u1))) ([cO 27 (ah p v (AV.mp 1)),AObj.map es,cO 2 (nth [i6 s.rule,aj s.atoms])])) ((↑(List.length p.rules.l):Int)-1)) ⟨krf,omg,omg,omg,(fun _ _=>⟨rfl,(d9 _ _ _ _ _ _)⟩),omg,⟨rfl,(ni _ _ (by simp at * <;> omega) _ _)⟩,?_⟩
  refine(mE (P:=Tryd.prog) (rs:=[]) 2 omg trivial ⟨(fun _ _=>(by first|exact trivial|apply bj)),trivial⟩ krf rfl (Af _))
def bP (l:List Int):Nat:=l.foldl (fun s a=>s|||2^a.toNat) 0
def fR (p:Prg)(l:List Int)(i:Nat):Bool:=bif decide (0<=l.getD i 0/\l.getD i 0<=p.atoms-1) then bif (i:Int)==0 then true else decide (l.getD i 0 > l.getD ((i:Int)-1).toNat 0) else false
def jr (p:Prg)(v:Nat->Int)(l:List Int)(i:Nat):Bool:=bif fR p l i then v (l.getD i 0).toNat==3 else false
theorem wF {p:Prg}{l:List Int}{i:Nat}(h:fR p l i=true):0<=l.getD i 0/\l.getD i 0<=p.atoms-1:=by
 unfold fR at h
 by_cases hA:0<=l.getD i 0/\l.getD i 0<=p.atoms-1
 ·exact hA
 ·rw[decide_eq_false hA] at h;cases h
theorem wG {p:Prg}{v:Nat->Int}{l:List Int}{i:Nat}(h:jr p v l i=true):fR p l i=true:=by
 unfold jr at h
 cases hp:fR p l i with
 |true=>rfl
 |false=>rw[hp] at h;cases h
def fS (p:Prg)(v:Nat->Int)(l:List Int):Bool:=decide (0<l.length)&&(List.range l.length).all (jr p v l)
def fT (p:Prg)(v:Nat->Int)(s:Nat):Bool:= !(ak s).any (fun a=>(ofH p.rules.l a).any (bX v s))
def wH (p:Prg)(v:Nat->Int)(s:Step):Bool:=fS p v s.atoms.l&&fT p v (bP s.atoms.l)
def cA (v:Nat->Int)(s:Nat):Nat->Int:=fun b=>if s.testBit b then 1 else v b
theorem gD {s b:Nat}(hs:s<2^24)(h:s.testBit b=true):b<24:=
 (Nat.pow_lt_pow_iff_right dcd).1 (Nat.lt_of_le_of_lt (Nat.ge_two_pow_of_testBit h) hs)
theorem wI {l:List Int}{i:Nat}(h:i<l.length):bP (l.take (i+1))=bP (l.take i)|||2^(l.getD i 0).toNat:=by
 unfold bP
 rw[List.take_add_one,List.foldl_append,List.getElem?_eq_getElem h,List.getD_eq_getElem?_getD,List.getElem?_eq_getElem h]
 rfl
def bt (l:List Rule):List Int:=l.foldl (fun ks r=>if r.head∈ks then ks else ks++[r.head]) []
theorem kX (l:List Rule)(r:Rule):bt (l++[r])=if r.head∈bt l then bt l else bt l++[r.head]:=by
 unfold bt
 rw[List.foldl_append]
 rfl
theorem nj (l:List Rule)(r:Rule)(a:Int):ofH (l++[r]) a=if r.head=a then ofH l a++[r] else ofH l a:=by
 unfold ofH
 rw[List.filter_append]
 by_cases h:r.head=a
 ·rw[if_pos h];simp[h]
 ·rw[if_neg h];simp[h]
theorem js {l:List Rule}{a:Int}:a∈bt l↔∃r,r∈l/\r.head=a:=by
 have key:∀n,n<=l.length->(a∈bt (l.take n)↔∃r,r∈l.take n/\r.head=a):=fun n=>by
  induction n with
  |zero=>intro _;simp[bt]
  |succ n ih=>
   intro hn
   have ih:=ih omg
   rw[List.take_add_one,List.getElem?_eq_getElem omg]
   show a∈bt (l.take n++[l[n]])↔∃r,r∈l.take n++[l[n]]/\r.head=a
   rw[kX]
   have e:(∃r,r∈l.take n++[l[n]]/\r.head=a)↔(∃r,r∈l.take n/\r.head=a)∨l[n].head=a:=by
    constructor
    ·rintro ⟨r,hr,h⟩
     rcases List.mem_append.1 hr with hr|hr
     ·exact .inl ⟨r,hr,h⟩
     ·have:r=l[n]:=by simpa using hr
      subst this
      exact .inr h
    ·rintro (⟨r,hr,h⟩|h)
     ·exact⟨r,List.mem_append.2 (.inl hr),h⟩
     ·exact⟨l[n],List.mem_append.2 (.inr (by simp)),h⟩
   rw[e,<-ih]
   by_cases hk:l[n].head∈bt (l.take n)
   ·rw[if_pos hk]
    exact⟨.inl,fun h=>h.elim id (fun h=>h▸hk)⟩
   ·rw[if_neg hk,List.mem_append]
    simp[eq_comm]
 have:=key l.length (Nat.le_refl _)
 rwa [List.take_length] at this
theorem wJ (l:List Rule):(bt l).Nodup:=by
 have key:∀n,n<=l.length->(bt (l.take n)).Nodup:=fun n=>by
  induction n with
  |zero=>intro _;simp[bt]
  |succ n ih=>
   intro hn
   rw[List.take_add_one,List.getElem?_eq_getElem omg]
   show(bt (l.take n++[l[n]])).Nodup
   rw[kX]
   by_cases hk:l[n].head∈bt (l.take n)
   ·rw[if_pos hk];exact ih omg
   ·rw[if_neg hk,List.nodup_append]
    refine⟨ih omg,by simp,fun x hx y hy=>?_⟩
    have:y=l[n].head:=by simpa using hy
    subst this
    exact fun e=>hk (e▸hx)
 have:=key l.length (Nat.le_refl _)
 rwa [List.take_length] at this
theorem wK {l:List Int}(hn:l.Nodup){i j:Nat}(hi:i<l.length)(hj:j<l.length)(e:l[i]=l[j]):i=j:=by
 rw[List.Nodup,List.pairwise_iff_getElem] at hn
 rcases Nat.lt_trichotomy i j with h|h|h
 ·exact absurd e (hn i j hi hj h)
 ·exact h
 ·exact absurd e.symm (hn j i hj hi h)
theorem kY {l:List Rule}{a:Int}:ofH l a=[]↔a∉bt l:=by
 unfold ofH
 rw[List.filter_eq_nil_iff,js]
 constructor
 ·rintro h ⟨r,hr,e⟩
  exact h r hr (by simp[e])
 ·intro h r hr
  simp only[beq_iff_eq]
  exact fun e=>h ⟨r,hr,e⟩
def bz (f:Nat->AObj)(r:List AObj):List AObj:=f 0::f 1::f 2::f 3::f 4::f 5::f 6::f 7::f 8::f 9::f 10::f 11::f 12::f 13::f 14::f 15::f 16::f 17::f 18::f 19::f 20::f 21::f 22::f 23::r
theorem kZ {f:Nat->AObj}{r:List AObj}{j:Nat}(hj:j<24):ag (bz f r) j=f j:=by
 have h:j=0∨j=1∨j=2∨j=3∨j=4∨j=5∨j=6∨j=7∨j=8∨j=9∨j=10∨j=11∨j=12∨j=13∨j=14∨j=15∨j=16∨j=17∨j=18∨j=19∨j=20∨j=21∨j=22∨j=23:=by omega
 rcases h with rfl|rfl|rfl|rfl|rfl|rfl|rfl|rfl|rfl|rfl|rfl|rfl|rfl|rfl|rfl|rfl|rfl|rfl|rfl|rfl|rfl|rfl|rfl|rfl <;> rfl
theorem wL {f g:Nat->AObj}{r:List AObj}{j:Nat}{o:AObj}(hj:j<24)(h:∀m,m<24->m≠j->g m=f m)(ho:g j=o):aJ (bz f r) j o=bz g r:=by
 subst ho
 have h':j=0∨j=1∨j=2∨j=3∨j=4∨j=5∨j=6∨j=7∨j=8∨j=9∨j=10∨j=11∨j=12∨j=13∨j=14∨j=15∨j=16∨j=17∨j=18∨j=19∨j=20∨j=21∨j=22∨j=23:=by omega
 unfold bz
 rcases h' with rfl|rfl|rfl|rfl|rfl|rfl|rfl|rfl|rfl|rfl|rfl|rfl|rfl|rfl|rfl|rfl|rfl|rfl|rfl|rfl|rfl|rfl|rfl|rfl
 ·rw[h 1 dcd dcd,h 2 dcd dcd,h 3 dcd dcd,h 4 dcd dcd,h 5 dcd dcd,h 6 dcd dcd,h 7 dcd dcd,h 8 dcd dcd,h 9 dcd dcd,h 10 dcd dcd,h 11 dcd dcd,h 12 dcd dcd,h 13 dcd dcd,h 14 dcd dcd,h 15 dcd dcd,h 16 dcd dcd,h 17 dcd dcd,h 18 dcd dcd,h 19 dcd dcd,h 20 dcd dcd,h 21 dcd dcd,h 22 dcd dcd,h 23 dcd dcd];rfl
 ·rw[h 0 dcd dcd,h 2 dcd dcd,h 3 dcd dcd,h 4 dcd dcd,h 5 dcd dcd,h 6 dcd dcd,h 7 dcd dcd,h 8 dcd dcd,h 9 dcd dcd,h 10 dcd dcd,h 11 dcd dcd,h 12 dcd dcd,h 13 dcd dcd,h 14 dcd dcd,h 15 dcd dcd,h 16 dcd dcd,h 17 dcd dcd,h 18 dcd dcd,h 19 dcd dcd,h 20 dcd dcd,h 21 dcd dcd,h 22 dcd dcd,h 23 dcd dcd];rfl
 ·rw[h 0 dcd dcd,h 1 dcd dcd,h 3 dcd dcd,h 4 dcd dcd,h 5 dcd dcd,h 6 dcd dcd,h 7 dcd dcd,h 8 dcd dcd,h 9 dcd dcd,h 10 dcd dcd,h 11 dcd dcd,h 12 dcd dcd,h 13 dcd dcd,h 14 dcd dcd,h 15 dcd dcd,h 16 dcd dcd,h 17 dcd dcd,h 18 dcd dcd,h 19 dcd dcd,h 20 dcd dcd,h 21 dcd dcd,h 22 dcd dcd,h 23 dcd dcd];rfl
 ·rw[h 0 dcd dcd,h 1 dcd dcd,h 2 dcd dcd,h 4 dcd dcd,h 5 dcd dcd,h 6 dcd dcd,h 7 dcd dcd,h 8 dcd dcd,h 9 dcd dcd,h 10 dcd dcd,h 11 dcd dcd,h 12 dcd dcd,h 13 dcd dcd,h 14 dcd dcd,h 15 dcd dcd,h 16 dcd dcd,h 17 dcd dcd,h 18 dcd dcd,h 19 dcd dcd,h 20 dcd dcd,h 21 dcd dcd,h 22 dcd dcd,h 23 dcd dcd];rfl
 ·rw[h 0 dcd dcd,h 1 dcd dcd,h 2 dcd dcd,h 3 dcd dcd,h 5 dcd dcd,h 6 dcd dcd,h 7 dcd dcd,h 8 dcd dcd,h 9 dcd dcd,h 10 dcd dcd,h 11 dcd dcd,h 12 dcd dcd,h 13 dcd dcd,h 14 dcd dcd,h 15 dcd dcd,h 16 dcd dcd,h 17 dcd dcd,h 18 dcd dcd,h 19 dcd dcd,h 20 dcd dcd,h 21 dcd dcd,h 22 dcd dcd,h 23 dcd dcd];rfl
 ·rw[h 0 dcd dcd,h 1 dcd dcd,h 2 dcd dcd,h 3 dcd dcd,h 4 dcd dcd,h 6 dcd dcd,h 7 dcd dcd,h 8 dcd dcd,h 9 dcd dcd,h 10 dcd dcd,h 11 dcd dcd,h 12 dcd dcd,h 13 dcd dcd,h 14 dcd dcd,h 15 dcd dcd,h 16 dcd dcd,h 17 dcd dcd,h 18 dcd dcd,h 19 dcd dcd,h 20 dcd dcd,h 21 dcd dcd,h 22 dcd dcd,h 23 dcd dcd];rfl
 ·rw[h 0 dcd dcd,h 1 dcd dcd,h 2 dcd dcd,h 3 dcd dcd,h 4 dcd dcd,h 5 dcd dcd,h 7 dcd dcd,h 8 dcd dcd,h 9 dcd dcd,h 10 dcd dcd,h 11 dcd dcd,h 12 dcd dcd,h 13 dcd dcd,h 14 dcd dcd,h 15 dcd dcd,h 16 dcd dcd,h 17 dcd dcd,h 18 dcd dcd,h 19 dcd dcd,h 20 dcd dcd,h 21 dcd dcd,h 22 dcd dcd,h 23 dcd dcd];rfl
 ·rw[h 0 dcd dcd,h 1 dcd dcd,h 2 dcd dcd,h 3 dcd dcd,h 4 dcd dcd,h 5 dcd dcd,h 6 dcd dcd,h 8 dcd dcd,h 9 dcd dcd,h 10 dcd dcd,h 11 dcd dcd,h 12 dcd dcd,h 13 dcd dcd,h 14 dcd dcd,h 15 dcd dcd,h 16 dcd dcd,h 17 dcd dcd,h 18 dcd dcd,h 19 dcd dcd,h 20 dcd dcd,h 21 dcd dcd,h 22 dcd dcd,h 23 dcd dcd];rfl
 ·rw[h 0 dcd dcd,h 1 dcd dcd,h 2 dcd dcd,h 3 dcd dcd,h 4 dcd dcd,h 5 dcd dcd,h 6 dcd dcd,h 7 dcd dcd,h 9 dcd dcd,h 10 dcd dcd,h 11 dcd dcd,h 12 dcd dcd,h 13 dcd dcd,h 14 dcd dcd,h 15 dcd dcd,h 16 dcd dcd,h 17 dcd dcd,h 18 dcd dcd,h 19 dcd dcd,h 20 dcd dcd,h 21 dcd dcd,h 22 dcd dcd,h 23 dcd dcd];rfl
 ·rw[h 0 dcd dcd,h 1 dcd dcd,h 2 dcd dcd,h 3 dcd dcd,h 4 dcd dcd,h 5 dcd dcd,h 6 dcd dcd,h 7 dcd dcd,h 8 dcd dcd,h 10 dcd dcd,h 11 dcd dcd,h 12 dcd dcd,h 13 dcd dcd,h 14 dcd dcd,h 15 dcd dcd,h 16 dcd dcd,h 17 dcd dcd,h 18 dcd dcd,h 19 dcd dcd,h 20 dcd dcd,h 21 dcd dcd,h 22 dcd dcd,h 23 dcd dcd];rfl
 ·rw[h 0 dcd dcd,h 1 dcd dcd,h 2 dcd dcd,h 3 dcd dcd,h 4 dcd dcd,h 5 dcd dcd,h 6 dcd dcd,h 7 dcd dcd,h 8 dcd dcd,h 9 dcd dcd,h 11 dcd dcd,h 12 dcd dcd,h 13 dcd dcd,h 14 dcd dcd,h 15 dcd dcd,h 16 dcd dcd,h 17 dcd dcd,h 18 dcd dcd,h 19 dcd dcd,h 20 dcd dcd,h 21 dcd dcd,h 22 dcd dcd,h 23 dcd dcd];rfl
 ·rw[h 0 dcd dcd,h 1 dcd dcd,h 2 dcd dcd,h 3 dcd dcd,h 4 dcd dcd,h 5 dcd dcd,h 6 dcd dcd,h 7 dcd dcd,h 8 dcd dcd,h 9 dcd dcd,h 10 dcd dcd,h 12 dcd dcd,h 13 dcd dcd,h 14 dcd dcd,h 15 dcd dcd,h 16 dcd dcd,h 17 dcd dcd,h 18 dcd dcd,h 19 dcd dcd,h 20 dcd dcd,h 21 dcd dcd,h 22 dcd dcd,h 23 dcd dcd];rfl
 ·rw[h 0 dcd dcd,h 1 dcd dcd,h 2 dcd dcd,h 3 dcd dcd,h 4 dcd dcd,h 5 dcd dcd,h 6 dcd dcd,h 7 dcd dcd,h 8 dcd dcd,h 9 dcd dcd,h 10 dcd dcd,h 11 dcd dcd,h 13 dcd dcd,h 14 dcd dcd,h 15 dcd dcd,h 16 dcd dcd,h 17 dcd dcd,h 18 dcd dcd,h 19 dcd dcd,h 20 dcd dcd,h 21 dcd dcd,h 22 dcd dcd,h 23 dcd dcd];rfl
 ·rw[h 0 dcd dcd,h 1 dcd dcd,h 2 dcd dcd,h 3 dcd dcd,h 4 dcd dcd,h 5 dcd dcd,h 6 dcd dcd,h 7 dcd dcd,h 8 dcd dcd,h 9 dcd dcd,h 10 dcd dcd,h 11 dcd dcd,h 12 dcd dcd,h 14 dcd dcd,h 15 dcd dcd,h 16 dcd dcd,h 17 dcd dcd,h 18 dcd dcd,h 19 dcd dcd,h 20 dcd dcd,h 21 dcd dcd,h 22 dcd dcd,h 23 dcd dcd];rfl
 ·rw[h 0 dcd dcd,h 1 dcd dcd,h 2 dcd dcd,h 3 dcd dcd,h 4 dcd dcd,h 5 dcd dcd,h 6 dcd dcd,h 7 dcd dcd,h 8 dcd dcd,h 9 dcd dcd,h 10 dcd dcd,h 11 dcd dcd,h 12 dcd dcd,h 13 dcd dcd,h 15 dcd dcd,h 16 dcd dcd,h 17 dcd dcd,h 18 dcd dcd,h 19 dcd dcd,h 20 dcd dcd,h 21 dcd dcd,h 22 dcd dcd,h 23 dcd dcd];rfl
 ·rw[h 0 dcd dcd,h 1 dcd dcd,h 2 dcd dcd,h 3 dcd dcd,h 4 dcd dcd,h 5 dcd dcd,h 6 dcd dcd,h 7 dcd dcd,h 8 dcd dcd,h 9 dcd dcd,h 10 dcd dcd,h 11 dcd dcd,h 12 dcd dcd,h 13 dcd dcd,h 14 dcd dcd,h 16 dcd dcd,h 17 dcd dcd,h 18 dcd dcd,h 19 dcd dcd,h 20 dcd dcd,h 21 dcd dcd,h 22 dcd dcd,h 23 dcd dcd];rfl
 ·rw[h 0 dcd dcd,h 1 dcd dcd,h 2 dcd dcd,h 3 dcd dcd,h 4 dcd dcd,h 5 dcd dcd,h 6 dcd dcd,h 7 dcd dcd,h 8 dcd dcd,h 9 dcd dcd,h 10 dcd dcd,h 11 dcd dcd,h 12 dcd dcd,h 13 dcd dcd,h 14 dcd dcd,h 15 dcd dcd,h 17 dcd dcd,h 18 dcd dcd,h 19 dcd dcd,h 20 dcd dcd,h 21 dcd dcd,h 22 dcd dcd,h 23 dcd dcd];rfl
 ·rw[h 0 dcd dcd,h 1 dcd dcd,h 2 dcd dcd,h 3 dcd dcd,h 4 dcd dcd,h 5 dcd dcd,h 6 dcd dcd,h 7 dcd dcd,h 8 dcd dcd,h 9 dcd dcd,h 10 dcd dcd,h 11 dcd dcd,h 12 dcd dcd,h 13 dcd dcd,h 14 dcd dcd,h 15 dcd dcd,h 16 dcd dcd,h 18 dcd dcd,h 19 dcd dcd,h 20 dcd dcd,h 21 dcd dcd,h 22 dcd dcd,h 23 dcd dcd];rfl
 ·rw[h 0 dcd dcd,h 1 dcd dcd,h 2 dcd dcd,h 3 dcd dcd,h 4 dcd dcd,h 5 dcd dcd,h 6 dcd dcd,h 7 dcd dcd,h 8 dcd dcd,h 9 dcd dcd,h 10 dcd dcd,h 11 dcd dcd,h 12 dcd dcd,h 13 dcd dcd,h 14 dcd dcd,h 15 dcd dcd,h 16 dcd dcd,h 17 dcd dcd,h 19 dcd dcd,h 20 dcd dcd,h 21 dcd dcd,h 22 dcd dcd,h 23 dcd dcd];rfl
 ·rw[h 0 dcd dcd,h 1 dcd dcd,h 2 dcd dcd,h 3 dcd dcd,h 4 dcd dcd,h 5 dcd dcd,h 6 dcd dcd,h 7 dcd dcd,h 8 dcd dcd,h 9 dcd dcd,h 10 dcd dcd,h 11 dcd dcd,h 12 dcd dcd,h 13 dcd dcd,h 14 dcd dcd,h 15 dcd dcd,h 16 dcd dcd,h 17 dcd dcd,h 18 dcd dcd,h 20 dcd dcd,h 21 dcd dcd,h 22 dcd dcd,h 23 dcd dcd];rfl
 ·rw[h 0 dcd dcd,h 1 dcd dcd,h 2 dcd dcd,h 3 dcd dcd,h 4 dcd dcd,h 5 dcd dcd,h 6 dcd dcd,h 7 dcd dcd,h 8 dcd dcd,h 9 dcd dcd,h 10 dcd dcd,h 11 dcd dcd,h 12 dcd dcd,h 13 dcd dcd,h 14 dcd dcd,h 15 dcd dcd,h 16 dcd dcd,h 17 dcd dcd,h 18 dcd dcd,h 19 dcd dcd,h 21 dcd dcd,h 22 dcd dcd,h 23 dcd dcd];rfl
 ·rw[h 0 dcd dcd,h 1 dcd dcd,h 2 dcd dcd,h 3 dcd dcd,h 4 dcd dcd,h 5 dcd dcd,h 6 dcd dcd,h 7 dcd dcd,h 8 dcd dcd,h 9 dcd dcd,h 10 dcd dcd,h 11 dcd dcd,h 12 dcd dcd,h 13 dcd dcd,h 14 dcd dcd,h 15 dcd dcd,h 16 dcd dcd,h 17 dcd dcd,h 18 dcd dcd,h 19 dcd dcd,h 20 dcd dcd,h 22 dcd dcd,h 23 dcd dcd];rfl
 ·rw[h 0 dcd dcd,h 1 dcd dcd,h 2 dcd dcd,h 3 dcd dcd,h 4 dcd dcd,h 5 dcd dcd,h 6 dcd dcd,h 7 dcd dcd,h 8 dcd dcd,h 9 dcd dcd,h 10 dcd dcd,h 11 dcd dcd,h 12 dcd dcd,h 13 dcd dcd,h 14 dcd dcd,h 15 dcd dcd,h 16 dcd dcd,h 17 dcd dcd,h 18 dcd dcd,h 19 dcd dcd,h 20 dcd dcd,h 21 dcd dcd,h 23 dcd dcd];rfl
 ·rw[h 0 dcd dcd,h 1 dcd dcd,h 2 dcd dcd,h 3 dcd dcd,h 4 dcd dcd,h 5 dcd dcd,h 6 dcd dcd,h 7 dcd dcd,h 8 dcd dcd,h 9 dcd dcd,h 10 dcd dcd,h 11 dcd dcd,h 12 dcd dcd,h 13 dcd dcd,h 14 dcd dcd,h 15 dcd dcd,h 16 dcd dcd,h 17 dcd dcd,h 18 dcd dcd,h 19 dcd dcd,h 20 dcd dcd,h 21 dcd dcd,h 22 dcd dcd];rfl
def eR (a:Nat):List Nat:=[0,1,2,(bif Nat.beq 0 a then 29 else 3),(bif Nat.beq 1 a then 29 else 4),(bif Nat.beq 2 a then 29 else 5),(bif Nat.beq 3 a then 29 else 6),(bif Nat.beq 4 a then 29 else 7),(bif Nat.beq 5 a then 29 else 8),(bif Nat.beq 6 a then 29 else 9),(bif Nat.beq 7 a then 29 else 10),(bif Nat.beq 8 a then 29 else 11),(bif Nat.beq 9 a then 29 else 12),(bif Nat.beq 10 a then 29 else 13),(bif Nat.beq 11 a then 29 else 14),(bif Nat.beq 12 a then 29 else 15),(bif Nat.beq 13 a then 29 else 16),(bif Nat.beq 14 a then 29 else 17),(bif Nat.beq 15 a then 29 else 18),(bif Nat.beq 16 a then 29 else 19),(bif Nat.beq 17 a then 29 else 20),(bif Nat.beq 18 a then 29 else 21),(bif Nat.beq 19 a then 29 else 22),(bif Nat.beq 20 a then 29 else 23),(bif Nat.beq 21 a then 29 else 24),(bif Nat.beq 22 a then 29 else 25),(bif Nat.beq 23 a then 29 else 26)]
theorem nk {a:Nat}(ha:a<24):bB (eR a) 30=true/\cD (eR a)=true/\∀b,b<24->au (eR a) 30 (3+b)=(bif Nat.beq b a then 29 else b+3):=by
 have h:(List.range 24).all (fun a=>bB (eR a) 30&&(cD (eR a)&&(List.range 24).all (fun b=>au (eR a) 30 (3+b)==(bif Nat.beq b a then 29 else b+3))))=true:=by decide +kernel
 have h:=(List.all_eq_true.1 h) a (List.mem_range.2 ha)
 simp only[Bool.and_eq_true] at h
 exact⟨h.1,h.2.1,fun b hb=>by simpa using (List.all_eq_true.1 h.2.2) b (List.mem_range.2 hb)⟩
theorem wM {f:Nat->Nat}{hp:List AObj}{a:Nat}{g:Nat->AObj}{x0 x1 x2:AObj}(h:∀j,j<24->LeO (ag hp (bif Nat.beq j a then 29 else j+3)) (bR f (g j)))(h0:LeO (ag hp 0) (bR f x0))(h1:LeO (ag hp 1) (bR f x1))(h2:LeO (ag hp 2) (bR f x2)):cR f hp (eR a) (x0::x1::x2::bz g []):=
 ⟨h0,h1,h2,h 0 dcd,h 1 dcd,h 2 dcd,h 3 dcd,h 4 dcd,h 5 dcd,h 6 dcd,h 7 dcd,h 8 dcd,h 9 dcd,h 10 dcd,h 11 dcd,h 12 dcd,h 13 dcd,h 14 dcd,h 15 dcd,h 16 dcd,h 17 dcd,h 18 dcd,h 19 dcd,h 20 dcd,h 21 dcd,h 22 dcd,h 23 dcd,trivial⟩
def esO (l:List Rule):List (Value × AV):=(bt l).map (fun b=>(.int .i64 b,.ow true (3+b.toNat) (ofH l b).length 2))
def esF (l:List Rule):List (Value × AV):=(bt l).map (fun b=>(.int .i64 b,ae ⟨ofH l b,.opn⟩))
def es1 (l:List Rule)(h:Int):List (Value × AV):=(bt l).map (fun b=>(.int .i64 b,if b=h then .ow true 29 (ofH l b).length 2 else .ow true (3+b.toNat) (ofH l b).length 2))
def a9 (l:List Rule):Nat->AV:=fun c=>bx (l.getD (c/2) default) (c%2)
def inH (l:List Rule)(j:Nat):AObj:=cO ((ofH l j).length*2) (a9 (ofH l j))
theorem qX {l:List Rule}(hr:∀r,r∈l->aP r):HeadsOk (esF l) l:=by
 have hk:∀b,b∈bt l->0<=b/\b<24:=fun b hb=>by
  obtain⟨r,h1,h2⟩:=js.1 hb
  have:=(hr r h1).2
  omega
 refine⟨fun e he=>?_,fun a ha=>⟨?_,fun e he hk'=>?_⟩,fun a ha e he hk'=>?_⟩
 ·obtain⟨b,hb,rfl⟩:=List.mem_map.1 he
  have:=hk b hb
  exact⟨b.toNat,by show Value.int .i64 b=_;congr 1;omega,omg⟩
 ·have hb:a∈bt l:=by
   by_cases h:a∈bt l
   ·exact h
   ·exact absurd (kY.2 h) ha
  exact⟨_,List.mem_map.2 ⟨a,hb,rfl⟩,rfl⟩
 ·obtain⟨b,hb,rfl⟩:=List.mem_map.1 he
  have e:b=a:=by
   have:Value.int .i64 b=.int .i64 a:=hk'
   simpa using this
  subst e
  rfl
 ·obtain⟨b,hb,rfl⟩:=List.mem_map.1 he
  have e:b=a:=by
   have:Value.int .i64 b=.int .i64 a:=hk'
   simpa using this
  subst e
  exact(kY.1 ha) hb
theorem wN {l:List Rule}{r:Rule}:MapPut (esO l) (es1 (l++[r]) r.head) (.int .i64 r.head) (.ow true 29 (ofH (l++[r]) r.head).length 2):=by
 have hkey:∀(b a:Int),(Value.int .i64 b=.int .i64 a)↔b=a:=fun b a=>by simp
 have hval:∀b,b≠r.head->ofH (l++[r]) b=ofH l b:=fun b hb=>by rw[nj,if_neg (fun e=>hb e.symm)]
 have hin:(∃e∈esO l,e.1=Value.int .i64 r.head)↔r.head∈bt l:=by
  constructor
  ·rintro ⟨e,he,h⟩
   obtain⟨b,hb,rfl⟩:=List.mem_map.1 he
   rw[<-(hkey _ _).1 h];exact hb
  ·exact fun h=>⟨_,List.mem_map.2 ⟨_,h,rfl⟩,rfl⟩
 refine⟨fun h=>?_,fun h=>?_,fun i j k v v' hi hj=>?_⟩
 ·have hn:r.head∉bt l:=fun hc=>by
   obtain⟨e,he,h2⟩:=hin.2 hc
   exact h e he h2
  unfold es1 esO
  rw[kX,if_neg hn,List.map_append]
  congr 1
  ·refine List.map_congr_left (fun b hb=>?_)
   have hne:b≠r.head:=fun e=>hn (e▸hb)
   rw[if_neg hne,hval b hne]
  ·show [(Value.int .i64 r.head,if r.head=r.head then AV.ow true 29 (ofH (l++[r]) r.head).length 2 else _)]=_
   rw[if_pos rfl]
 ·have hy:=hin.1 h
  have e:bt (l++[r])=bt l:=by rw[kX,if_pos hy]
  unfold es1 esO
  rw[e]
  refine⟨by rw[List.length_map,List.length_map],fun i k v hi=>?_⟩
  rw[List.getElem?_map] at hi ⊢
  cases hx:(bt l)[i]? with
  |none=>rw[hx] at hi;cases hi
  |some b=>
   rw[hx] at hi
   cases hi
   by_cases hb:b=r.head
   ·subst hb
    exact .inl ⟨rfl,if_pos rfl,_,rfl⟩
   ·refine .inr ⟨fun e=>hb ((hkey _ _).1 e),?_⟩
    rw[if_neg hb,hval b hb]
    rfl
 ·unfold esO at hi hj
  rw[List.getElem?_map] at hi hj
  cases hx:(bt l)[i]? with
  |none=>rw[hx] at hi;cases hi
  |some b=>
   cases hy:(bt l)[j]? with
   |none=>rw[hy] at hj;cases hj
   |some c=>
    rw[hx] at hi
    rw[hy] at hj
    cases hi
    have e:c=b:=by
     have:=congrArg (fun x:Option (Value × AV)=>x.map Prod.fst) hj
     simpa using this
    subst e
    have h1:=(List.getElem?_eq_some_iff.1 hx)
    have h2:=(List.getElem?_eq_some_iff.1 hy)
    obtain⟨h1,h1'⟩:=h1
    obtain⟨h2,h2'⟩:=h2
    exact wK (wJ l) h1 h2 (h1'.trans h2'.symm)
theorem wO {l:List Rule}{h:Int}(hk:∀b,b∈bt l->0<=b/\b<24)(hh:0<=h/\h<24):es1 l h=(esO l).map (fun e=>(e.1,aN (au (eR h.toNat) 30) e.2)):=by
 unfold es1 esO
 rw[List.map_map]
 refine List.map_congr_left (fun b hb=>?_)
 have h1:=hk b hb
 have h2:=(nk (a:=h.toNat) omg).2.2 b.toNat omg
 show(Value.int .i64 b,_)=(Value.int .i64 b,AV.ow true (au (eR h.toNat) 30 (3+b.toNat)) _ 2)
 rw[h2]
 by_cases e:b=h
 ·subst e
  rw[if_pos rfl,show Nat.beq b.toNat b.toNat=true by simp]
  rfl
 ·rw[if_neg e,show Nat.beq b.toNat h.toNat=false from by
   cases hx:Nat.beq b.toNat h.toNat with
   |false=>rfl
   |true=>exact absurd (Nat.eq_of_beq_eq_true hx) omg]
  congr 2
  simp[Nat.add_comm]
theorem qY {f g:Nat->AObj}{r r':List AObj}(h:∀j,j<24->LeO (f j) (g j))(hr:leH r r'):leH (bz f r) (bz g r'):=
 ⟨h 0 dcd,h 1 dcd,h 2 dcd,h 3 dcd,h 4 dcd,h 5 dcd,h 6 dcd,h 7 dcd,h 8 dcd,h 9 dcd,h 10 dcd,h 11 dcd,h 12 dcd,h 13 dcd,h 14 dcd,h 15 dcd,h 16 dcd,h 17 dcd,h 18 dcd,h 19 dcd,h 20 dcd,h 21 dcd,h 22 dcd,h 23 dcd,hr⟩
theorem fU {R:Res}{k0:Nat}(get:Nat->AV):∀(n:Nat) {s:St R.σ},To R k0 s ⟨s.fr,s.hp++List.replicate n (cO 0 get),s.g⟩
 |0,s=>by rw[List.replicate_zero,List.append_nil];exact Ar s
 |n+1,s=>by
  have h:=(uE (k0:=k0) (s:=s) get).trans (fU get n)
  rw[List.append_assoc] at h
  exact h
def mkH (p:Prg)(l:List Rule)(r:List AObj):List AObj:=cO 2 (nth [.int .i64 p.atoms,ae p.rules])::.mapo (esO l)::cO 27 (ah p (fun _=>3) (.mp 1))::bz (inH l) r
theorem wP {p:Prg}{j:Nat}(hj:j<27):nth [.int .i64 p.atoms,ae p.rules,.int .i64 3,.int .i64 3,.int .i64 3,.int .i64 3,.int .i64 3,.int .i64 3,.int .i64 3,.int .i64 3,.int .i64 3,.int .i64 3,.int .i64 3,.int .i64 3,.int .i64 3,.int .i64 3,.int .i64 3,.int .i64 3,.int .i64 3,.int .i64 3,.int .i64 3,.int .i64 3,.int .i64 3,.int .i64 3,.int .i64 3,.int .i64 3,.mp 1] j=ah p (fun _=>3) (.mp 1) j:=by
 have h:j=0∨j=1∨j=2∨j=3∨j=4∨j=5∨j=6∨j=7∨j=8∨j=9∨j=10∨j=11∨j=12∨j=13∨j=14∨j=15∨j=16∨j=17∨j=18∨j=19∨j=20∨j=21∨j=22∨j=23∨j=24∨j=25∨j=26:=by omega
 rcases h with rfl|rfl|rfl|rfl|rfl|rfl|rfl|rfl|rfl|rfl|rfl|rfl|rfl|rfl|rfl|rfl|rfl|rfl|rfl|rfl|rfl|rfl|rfl|rfl|rfl|rfl|rfl <;> rfl
def aS (f:Nat->AObj)(a:Nat):Nat->AObj:=fun j=>bif Nat.beq j a then .dead else f j
def wQ (f:Nat->AObj):List (Nat × AObj):=[(3,f 0),(4,f 1),(5,f 2),(6,f 3),(7,f 4),(8,f 5),(9,f 6),(10,f 7),(11,f 8),(12,f 9),(13,f 10),(14,f 11),(15,f 12),(16,f 13),(17,f 14),(18,f 15),(19,f 16),(20,f 17),(21,f 18),(22,f 19),(23,f 20),(24,f 21),(25,f 22),(26,f 23)]
theorem wR {f:Nat->AObj}{x0 x1 x2:AObj}{r:List AObj}{a:Nat}(ha:a<24):aJ (x0::x1::x2::bz f r) (3+a) .dead=x0::x1::x2::bz (aS f a) r:=by
 rw[show 3+a=a+3 by omega]
 show x0::x1::x2::aJ (bz f r) a .dead=_
 rw[wL (g:=aS f a) (o:=.dead) ha (fun m _ hne=>by
  unfold aS
  rw[show Nat.beq m a=false from by
   cases h:Nat.beq m a with
   |false=>rfl
   |true=>exact absurd (Nat.eq_of_beq_eq_true h) hne]
  rfl) (by
  unfold aS
  rw[show Nat.beq a a=true by simp]
  rfl)]
theorem lb {f:Nat->AObj}{x0 x1 x2:AObj}{r:List AObj}{a:Nat}(ha:a<24):ag (x0::x1::x2::bz f r) (3+a)=f a:=by
 rw[show 3+a=a+3 by omega]
 exact kZ ha
theorem wS {l:List Rule}{h:Int}(hm:∀e∈esO l,e.1≠.int .i64 h):ofH l h=[]:=by
 rw[kY]
 intro hk
 exact hm _ (List.mem_map.2 ⟨h,hk,rfl⟩) rfl
theorem wT {l:List Rule}{h:Int}{e:Value × AV}(he:e∈esO l)(hk:e.1=.int .i64 h):e.2=.ow true (3+h.toNat) (ofH l h).length 2:=by
 obtain⟨b,hb,rfl⟩:=List.mem_map.1 he
 have e:b=h:=by simpa using hk
 subst e
 rfl
theorem nl {h:Int}(hh:0<=h/\h<24):∃l,Go.keyOf Tryd.prog 3 (.int .i64 h)=some l:=by
 obtain⟨n,rfl⟩:∃n:Nat,h=n:=⟨h.toNat,omg⟩
 exact gC omg
theorem qZ {l:List Rule}(hr:∀r,r∈l->aP r){e:Value × AV}(he:e∈esO l):∃k,Go.keyOf Tryd.prog 3 e.1=some k:=by
 obtain⟨b,hb,rfl⟩:=List.mem_map.1 he
 obtain⟨r,h1,rfl⟩:=js.1 hb
 exact nl (hr r h1).2
theorem q0 {l:List Rule}{r:Rule}{z:Nat->AV}{c:Nat}(hc:c<(l.length+1)*2):a9 (l++[r]) c=ba 2 l.length (fun i j=>a9 l (i*2+j)) (fun i j=>am z 0 2 (nth [.int .i64 r.head,ao r.body]) (0+i*2+j)) c:=by
 unfold ba
 by_cases h:c<l.length*2
 ·rw[if_pos h]
  show _=a9 l (c/2*2+c%2)
  rw[show c/2*2+c%2=c by omega]
  unfold a9
  rw[List.getD_eq_getElem?_getD,List.getElem?_append_left omg,<-List.getD_eq_getElem?_getD]
 ·rw[if_neg h]
  show _=am z 0 2 _ (0+(c-l.length*2)/2*2+(c-l.length*2)%2)
  rw[dP,if_pos omg]
  unfold a9
  rw[show c/2=l.length by omega,List.getD_eq_getElem?_getD,List.getElem?_append_right (Nat.le_refl _),Nat.sub_self]
  show bx r (c%2)=nth _ (0+(c-l.length*2)/2*2+(c-l.length*2)%2-0)
  rw[show 0+(c-l.length*2)/2*2+(c-l.length*2)%2-0=c%2 by omega]
  rfl
theorem kO {f:Nat->Nat}(r:Rule)(j:Nat):aN f (bx r j)=bx r j:=by
 match j with
 |0=>rfl
 |1=>rfl
 |_+2=>rfl
theorem kM {k:Nat}(r:Rule)(j:Nat):Below k (bx r j):=by
 match j with
 |0=>trivial
 |1=>trivial
 |_+2=>trivial
theorem gv {f:Nat->Nat}{n:Nat}{l:List Rule}:bR f (cO n (a9 l))=cO n (a9 l):=by
 show cO n (fun j=>aN f (a9 l j))=_
 congr 1
 funext j
 exact kO _ _
theorem il {f:Nat->Nat}{x:Int}{y:KL Rule}:LeO (cO 2 (nth [.int .i64 x,ae y])) (bR f (cO 2 (nth [.int .i64 x,ae y]))):=
 Ap (fun j hj=>match j,hj with|0,_=>rfl|1,_=>rfl)
theorem q5 {P:Program}{R:Res}{o:Oper}{ev:Operand->AV}{hp hp' hp'':List AObj}{g g':R.σ}{v:AV}(h:OpOk P R o ev hp g v hp' g')(e:hp'=hp''):OpOk P R o ev hp g v hp'' g':=e▸h
theorem wU (p:Prg):leH ([cO 2 (nth [.int .i64 p.atoms,ae p.rules]),.mapo [],cO 27 (nth [.int .i64 p.atoms,ae p.rules,.int .i64 3,.int .i64 3,.int .i64 3,.int .i64 3,.int .i64 3,.int .i64 3,.int .i64 3,.int .i64 3,.int .i64 3,.int .i64 3,.int .i64 3,.int .i64 3,.int .i64 3,.int .i64 3,.int .i64 3,.int .i64 3,.int .i64 3,.int .i64 3,.int .i64 3,.int .i64 3,.int .i64 3,.int .i64 3,.int .i64 3,.int .i64 3,.mp 1])]++List.replicate 24 (cO 0 (a9 []))) (mkH p [] []):=
 ⟨Ai _,Ai _,Ap (fun j hj=>wP hj),qY (f:=fun _=>cO 0 (a9 [])) (fun j hj=>Ai _) trivial⟩
theorem wV (R:Res)(p:Prg)(hl:p.rules.l.length<1000000)(hr:∀r,r∈p.rules.l->aP r)(g:R.σ):Does Tryd.prog R 66 [av p] [] g (.ret (.ref 0 0)) [cO 27 (ah p (fun _=>3) (.mp 1)),.map (esF p.rules.l)] g:=by
 refine spW (nt:=36) (rs:=[.tmp 2]) (k0:=0) ?_
 refine vcR [] (lkL [(0,[1]),(1,[1,3]),(2,[3,12,13,14])]) (lkL [(1,[(1,ROrc.pcall (jq fun (x:Nat)=>3)),(2,ROrc.new (AV.mp 1) (AObj.mapo []))])]) (fun Q=>(fun (u1:AV)=>(fun (u2:AObj)=>Flw Tryd.prog/\2<=2/\(∀(hp:List AObj) (g:R.σ),true=true/\Does Tryd.prog R 99 [] hp g (ret (jq fun j=>3)) hp g)/\OpOk Tryd.prog R (Oper.mk (some 8) (Op.makeMap 96 none) 96 "table.go:100" #[] none) (evO [Row.mk (some 7) none (jq fun j=>3) false (some []) [],Row.mk (some 6) none (av p) false (some []) [0]] [(1,ref 0 0)] []) [u2] g (AV.mp 1) [u2,AObj.mapo []] g/\2<=2/\WpC Tryd.prog R 36 0 66 [1,1,0,1,0] Q [Kont.blk 0,Kont.seq [1,1,1]] (St.mk [(3,ref 2 0),(12,ae p.rules),(13,i6 (↑(List.length p.rules.l):Int)),(14,i6 0)] [u2,AObj.mapo [],cO 27 (nth [i6 p.atoms,ae p.rules,u1,u1,u1,u1,u1,u1,u1,u1,u1,u1,u1,u1,u1,u1,u1,u1,u1,u1,u1,u1,u1,u1,u1,u1,AV.mp 1])] g)) (cO 2 (nth [i6 p.atoms,ae p.rules]))) (i6 3)) ⟨krf,omg,(fun _ _=>⟨rfl,(ww _ _ _)⟩),?_,omg,?_⟩
 ·exact vF rfl
 ·refine b8 (fU (a9 []) 24) ?_
  refine b8 (toL (s':=⟨[(3,.ref 2 0),(12,ae p.rules),(13,.int .i64 p.rules.l.length),(14,.int .i64 0)],mkH p [] [],g⟩) (h2:=wU p)) ?_
  refine(a8 krf (fun (i:Nat)=>⟨[(3,ref 2 0),(12,ae p.rules),(13,i6 (p.rules.l.length:Int)),(14,.int .i64 i)],(mkH p (p.rules.l.take i) []),g⟩) (fun (i:Nat)=>(i<=p.rules.l.length)) (fun (i:Nat)=>(p.rules.l.length-i)) 0 (toL (h1:=⟨Af _,Af _,Af _,(Ag krf),trivial⟩) (h2:=⟨Ah,Ai _,Ah,Ah,Ah,Ah,Ah,Ah,Ah,Ah,Ah,Ah,Ah,Ah,Ah,Ah,Ah,Ah,Ah,Ah,Ah,Ah,Ah,Ah,Ah,Ah,Ah,trivial⟩)) ?_ (fun i hi=>?_))
  ·exact Nat.zero_le _
  ·rcases Nat.lt_or_ge i p.rules.l.length with hi'|hi'
   ·have hq:=(hr _ (fP hi')).2
    have hrl:∀r,r∈(p.rules.l.take i)->aP r:=fun r h=>hr r (List.mem_of_mem_take h)
    have hcast:(((p.rules.l.getD i default).head.toNat:Nat):Int)=(p.rules.l.getD i default).head:=by omega
    have hln:(ofH (p.rules.l.take i) (p.rules.l.getD i default).head).length<=p.rules.l.length:=Nat.le_trans (List.length_filter_le _ _) (by rw[List.length_take];omega)
    have hsn:ofH ((p.rules.l.take i)++[(p.rules.l.getD i default)]) (p.rules.l.getD i default).head=ofH (p.rules.l.take i) (p.rules.l.getD i default).head++[(p.rules.l.getD i default)]:=by rw[nj,if_pos rfl]
    have htk:p.rules.l.take (i+1)=(p.rules.l.take i)++[(p.rules.l.getD i default)]:=by
     rw[List.take_add_one,List.getElem?_eq_getElem hi',List.getD_eq_getElem?_getD,List.getElem?_eq_getElem hi']
     rfl
    have hmp:=wN (l:=(p.rules.l.take i)) (r:=(p.rules.l.getD i default))
    rw[hsn,List.length_append,List.length_singleton] at hmp
    refine vcR [] (lkL [(3,[3,12,13,14,15]),(4,[3,5,12,13,14]),(5,[3,12,13,14]),(6,[3,12,13,14])]) (lkL [(4,[(3,ROrc.val (Orc.obj (nth [i6 (List.getD p.rules.l i default).head,ao (List.getD p.rules.l i default).body])))]),(5,[(12,ROrc.look (ow true (3+Int.toNat (List.getD p.rules.l i default).head) (List.length (ofH (List.take i p.rules.l) (List.getD p.rules.l i default).head)) 2) [1]),(15,ROrc.newS (ow true 29 (List.length (ofH (List.take i p.rules.l) (List.getD p.rules.l i default).head)+1) 2) (wQ (aS (inH (List.take i p.rules.l)) (Int.toNat (List.getD p.rules.l i default).head))) (cO ((List.length (ofH (List.take i p.rules.l) (List.getD p.rules.l i default).head)+1)*2) (a9 (ofH (List.take i p.rules.l) (List.getD p.rules.l i default).head++[List.getD p.rules.l i default])))),(16,ROrc.own any (cO 2 (nth [i6 p.atoms,ae p.rules])::AObj.mapo (es1 (List.take i p.rules.l++[List.getD p.rules.l i default]) (List.getD p.rules.l i default).head)::cO 27 (ah p (fun (x:Nat)=>3) (AV.mp 1))::bz (aS (inH (List.take i p.rules.l)) (Int.toNat (List.getD p.rules.l i default).head)) [cO 2 (nth [i6 (List.getD p.rules.l i default).head,ao (List.getD p.rules.l i default).body]),cO 2 (am (fun (j:Nat)=>nth [i6 0,fz Fz.nil 0 0 fun (x x_1:Nat)=>any] (j%2)) 0 2 (nth [i6 (List.getD p.rules.l i default).head,ao (List.getD p.rules.l i default).body])),cO ((List.length (ofH (List.take i p.rules.l) (List.getD p.rules.l i default).head)+1)*2) (a9 (ofH (List.take i p.rules.l) (List.getD p.rules.l i default).head++[List.getD p.rules.l i default]))]) g)])]) (fun Q=>(fun (u1:Int)=>(fun (u2:List Rule)=>(fun (u3:List AObj)=>(fun (u4:List AObj)=>(fun (u5:List Row)=>(fun (u6:Int)=>(fun (u7:List Row)=>(fun (u8:List AV)=>(fun (u9:List (Nat × AV))=>(fun (u10:Int)=>(fun (u11:AObj)=>(fun (u12:AObj)=>(decide (u10<u6)=true->(0<=u10/\u10<u6)/\2<=2/\2<=2/\(∀(c:Nat),c<2->nth u8 c=am (nth [i6 0,fz Fz.nil 0 0 fun x x_1=>any]) 0 2 (List.brecOn (motive:=fun (x:List AV)=>Nat->AV) u8 nth._f) c)/\Flw Tryd.prog/\27<=27/\1<=2/\27<=27/\1<=2/\(∀(hp':List AObj) (g':R.σ),SameO [1] [u11,AObj.mapo (esO u2),u12,inH u2 0,inH u2 1,inH u2 2,inH u2 3,inH u2 4,inH u2 5,inH u2 6,inH u2 7,inH u2 8,inH u2 9,inH u2 10,inH u2 11,inH u2 12,inH u2 13,inH u2 14,inH u2 15,inH u2 16,inH u2 17,inH u2 18,inH u2 19,inH u2 20,inH u2 21,inH u2 22,inH u2 23,cO 2 (nth u8)] hp'->OpOk Tryd.prog R (Oper.mk (some 30) (Op.lookup 96 (Operand.tmp 27) (Operand.tmp 29) false) 22 "table.go:102" #[Edge.mk 9 Ground.data,Edge.mk 11 Ground.data] none) (evO u5 u9 []) hp' g' (ow true (3+Int.toNat u1) (List.length (ofH u2 u1)) 2) hp' g')/\2<=2/\OpOk Tryd.prog R (Oper.mk (some 33) (Op.call (Call.mk (Callee.builtin Builtin.append) #[Operand.tmp 30,Operand.tmp 32] #[22,22])) 22 "table.go:102" #[Edge.mk 12 Ground.data,Edge.mk 14 Ground.data] none) (evO u7 u9 []) [u11,AObj.mapo (esO u2),u12,inH u2 0,inH u2 1,inH u2 2,inH u2 3,inH u2 4,inH u2 5,inH u2 6,inH u2 7,inH u2 8,inH u2 9,inH u2 10,inH u2 11,inH u2 12,inH u2 13,inH u2 14,inH u2 15,inH u2 16,inH u2 17,inH u2 18,inH u2 19,inH u2 20,inH u2 21,inH u2 22,inH u2 23,cO 2 (nth u8),cO 2 (am (fun (j:Nat)=>nth [i6 0,fz Fz.nil 0 0 fun x x_1=>any] (j%2)) 0 2 (List.brecOn (motive:=fun (x:List AV)=>Nat->AV) u8 nth._f))] g (ow true 29 (List.length (ofH u2 u1)+1) 2) u3 g/\OpOk Tryd.prog R (Oper.mk none (Op.mapUpdate 96 (Operand.tmp 21) (Operand.tmp 23) (Operand.tmp 33)) 0 "table.go:102" #[Edge.mk 3 Ground.data,Edge.mk 5 Ground.data,Edge.mk 15 Ground.data,Edge.mk 15 Ground.chain,Edge.mk 0 Ground.phase,Edge.mk 1 Ground.phase,Edge.mk 2 Ground.phase,Edge.mk 3 Ground.phase,Edge.mk 4 Ground.phase,Edge.mk 5 Ground.phase,Edge.mk 6 Ground.phase,Edge.mk 7 Ground.phase,Edge.mk 8 Ground.phase,Edge.mk 9 Ground.phase,Edge.mk 10 Ground.phase,Edge.mk 11 Ground.phase,Edge.mk 12 Ground.phase,Edge.mk 13 Ground.phase,Edge.mk 14 Ground.phase,Edge.mk 15 Ground.phase] none) (evO (Row.mk (some 33) none (ow true 29 (List.length (ofH u2 u1)+1) 2) true (some [29,3,4,5,6,7,8,9,10,11,12,13,14,15,16,17,18,19,20,21,22,23,24,25,26]) []::u7) u9 []) u3 g any u4 g/\(-9223372036854775808<=u10+1/\u10+1<=9223372036854775807)/\Q AEx.normal (St.mk [(3,ref 2 0),(12,ae p.rules),(13,i6 u6),(14,i6 (u10+1))] u4 g))/\(decide (u10<u6)=false->Q (AEx.exit 0) (St.mk [(3,ref 2 0),(12,ae p.rules),(13,i6 u6),(14,i6 u10),(15,AV.bool (decide (u10<u6)))] [u11,AObj.mapo (esO u2),u12,inH u2 0,inH u2 1,inH u2 2,inH u2 3,inH u2 4,inH u2 5,inH u2 6,inH u2 7,inH u2 8,inH u2 9,inH u2 10,inH u2 11,inH u2 12,inH u2 13,inH u2 14,inH u2 15,inH u2 16,inH u2 17,inH u2 18,inH u2 19,inH u2 20,inH u2 21,inH u2 22,inH u2 23] g))) (cO 27 (ah p (fun (x:Nat)=>3) (AV.mp 1)))) (cO 2 (nth [i6 p.atoms,ae p.rules]))) ((↑i:Int))) ([(3,ref 2 0),(5,ref 27 0),(12,ae p.rules),(13,i6 u6),(14,i6 (↑i:Int))])) ([i6 u1,ao (List.getD p.rules.l i default).body])) (Row.mk (some 32) none (sl 28 0 1 1 true 2) true (some [28]) []::Row.mk (some 31) none (bS (List.getD p.rules.l i default)) false (some []) [27]::Row.mk (some 30) none (ow true (3+Int.toNat u1) (List.length (ofH u2 u1)) 2) false (some []) [1]::u5)) ((↑(List.length p.rules.l):Int))) ([Row.mk (some 29) none (i6 u1) false (some []) [27],Row.mk (some 28) none (ref 27 0) false (some []) [],Row.mk (some 27) none (AV.mp 1) false (some []) [2],Row.mk (some 26) none (ref 2 26) false (some []) [],Row.mk (some 25) none (ref 2 0) false (some []) [],Row.mk (some 24) none (ref 2 0) false (some []) [],Row.mk (some 23) none (i6 u1) false (some []) [27],Row.mk (some 22) none (ref 27 0) false (some []) [],Row.mk (some 21) none (AV.mp 1) false (some []) [2],Row.mk (some 20) none (ref 2 26) false (some []) [],Row.mk (some 19) none (ref 2 0) false (some []) [],Row.mk (some 18) none (ref 2 0) false (some []) []])) ([cO 2 (nth [i6 p.atoms,ae p.rules]),AObj.mapo (es1 (u2++[List.getD p.rules.l i default]) u1),cO 27 (ah p (fun (x:Nat)=>3) (AV.mp 1)),aS (inH u2) (Int.toNat u1) 0,aS (inH u2) (Int.toNat u1) 1,aS (inH u2) (Int.toNat u1) 2,aS (inH u2) (Int.toNat u1) 3,aS (inH u2) (Int.toNat u1) 4,aS (inH u2) (Int.toNat u1) 5,aS (inH u2) (Int.toNat u1) 6,aS (inH u2) (Int.toNat u1) 7,aS (inH u2) (Int.toNat u1) 8,aS (inH u2) (Int.toNat u1) 9,aS (inH u2) (Int.toNat u1) 10,aS (inH u2) (Int.toNat u1) 11,aS (inH u2) (Int.toNat u1) 12,aS (inH u2) (Int.toNat u1) 13,aS (inH u2) (Int.toNat u1) 14,aS (inH u2) (Int.toNat u1) 15,aS (inH u2) (Int.toNat u1) 16,aS (inH u2) (Int.toNat u1) 17,aS (inH u2) (Int.toNat u1) 18,aS (inH u2) (Int.toNat u1) 19,aS (inH u2) (Int.toNat u1) 20,aS (inH u2) (Int.toNat u1) 21,aS (inH u2) (Int.toNat u1) 22,aS (inH u2) (Int.toNat u1) 23,cO 2 (nth [i6 u1,ao (List.getD p.rules.l i default).body]),cO 2 (am (fun (j:Nat)=>nth [i6 0,fz Fz.nil 0 0 fun x x_1=>any] (j%2)) 0 2 (nth [i6 u1,ao (List.getD p.rules.l i default).body])),cO ((List.length (ofH u2 u1)+1)*2) (a9 (ofH u2 u1++[List.getD p.rules.l i default]))])) ([cO 2 (nth [i6 p.atoms,ae p.rules]),AObj.mapo (esO u2),cO 27 (ah p (fun (x:Nat)=>3) (AV.mp 1)),aS (inH u2) (Int.toNat u1) 0,aS (inH u2) (Int.toNat u1) 1,aS (inH u2) (Int.toNat u1) 2,aS (inH u2) (Int.toNat u1) 3,aS (inH u2) (Int.toNat u1) 4,aS (inH u2) (Int.toNat u1) 5,aS (inH u2) (Int.toNat u1) 6,aS (inH u2) (Int.toNat u1) 7,aS (inH u2) (Int.toNat u1) 8,aS (inH u2) (Int.toNat u1) 9,aS (inH u2) (Int.toNat u1) 10,aS (inH u2) (Int.toNat u1) 11,aS (inH u2) (Int.toNat u1) 12,aS (inH u2) (Int.toNat u1) 13,aS (inH u2) (Int.toNat u1) 14,aS (inH u2) (Int.toNat u1) 15,aS (inH u2) (Int.toNat u1) 16,aS (inH u2) (Int.toNat u1) 17,aS (inH u2) (Int.toNat u1) 18,aS (inH u2) (Int.toNat u1) 19,aS (inH u2) (Int.toNat u1) 20,aS (inH u2) (Int.toNat u1) 21,aS (inH u2) (Int.toNat u1) 22,aS (inH u2) (Int.toNat u1) 23,cO 2 (nth [i6 u1,ao (List.getD p.rules.l i default).body]),cO 2 (am (fun (j:Nat)=>nth [i6 0,fz Fz.nil 0 0 fun x x_1=>any] (j%2)) 0 2 (List.brecOn (motive:=fun (x:List AV)=>Nat->AV) [i6 u1,ao (List.getD p.rules.l i default).body] nth._f)),cO ((List.length (ofH u2 u1)+1)*2) (a9 (ofH u2 u1++[List.getD p.rules.l i default]))])) (List.take i p.rules.l)) ((List.getD p.rules.l i default).head)) ⟨fun c1=>have c1:(↑i:Int)<(↑(List.length p.rules.l):Int):=(of_decide_eq_true c1);⟨omg,omg,omg,(fun c hc=>match c,hc with|0,_=>krf|1,_=>krf ),krf,omg,omg,omg,omg,?_,omg,?_,?_,omg,?_⟩,fun c1=>have c1:¬(↑i:Int)<(↑(List.length p.rules.l):Int):=(of_decide_eq_false c1);?_⟩
    ·intro hp' g' hh
     have h1:ag hp' 1=.mapo (esO (p.rules.l.take i)):=hh.h 1 (List.Mem.head _)
     exact vG (t:=96) (kt:=3) (vt:=22) (m:=.tmp 27) (x:=.tmp 29) (ob:=1) (es:=esO (p.rules.l.take i)) (kv:=.int .i64 (p.rules.l.getD i default).head) rfl krf (Go.Maps.int_keyed (q:=.i64) krf) rfl rfl h1 (fun FM Z v h=>h) (nl hq) (fun e he=>qZ hrl he) (fun h=>by rw[wS h];exact Le.nil_ow) (fun e he hk=>wT he hk)
    ·refine vJ (t:=22) (es:=2) (b:=32) (n:=(ofH (p.rules.l.take i) (p.rules.l.getD i default).head).length) (m:=1) (get0:=a9 (ofH (p.rules.l.take i) (p.rules.l.getD i default).head)) (N0:=(ofH (p.rules.l.take i) (p.rules.l.getD i default).head).length*2) (get':=a9 (ofH (p.rules.l.take i) (p.rules.l.getD i default).head++[(p.rules.l.getD i default)])) rfl rfl rfl rfl rfl ?_ krf rfl ⟨dcd,trivial⟩ (Nat.le_refl _) dcd ?_ ?_ (fun c hc=>(q0 (r:=(p.rules.l.getD i default)) (z:=fun j=>nth [.int .i64 0,.fz .nil 0 0 fun _ _=>.any] (j%2)) hc).trans krf) ?_
     ·refine(lb (f:=inH (p.rules.l.take i)) (a:=(p.rules.l.getD i default).head.toNat) omg).trans ?_
      unfold inH
      rw[hcast]
     ·rw[show aG=140737488355328 from rfl];omega
     ·rw[show aG=140737488355328 from rfl];omega
     ·exact Eq.trans krf (Eq.trans (congrArg (fun h=>aT h (cO (((ofH (p.rules.l.take i) (p.rules.l.getD i default).head).length+1)*2) (a9 (ofH (p.rules.l.take i) (p.rules.l.getD i default).head++[(p.rules.l.getD i default)])))) (wR (f:=inH (p.rules.l.take i)) (x0:=cO 2 (nth [.int .i64 p.atoms,ae p.rules])) (x1:=.mapo (esO (p.rules.l.take i))) (x2:=cO 27 (ah p (fun _=>3) (.mp 1))) (r:=[(cO 2 (nth [.int .i64 (p.rules.l.getD i default).head,ao (p.rules.l.getD i default).body])),(cO 2 (am (fun j=>nth [.int .i64 0,.fz .nil 0 0 fun _ _=>.any] (j%2)) 0 2 (nth [.int .i64 (p.rules.l.getD i default).head,ao (p.rules.l.getD i default).body])))]) (a:=(p.rules.l.getD i default).head.toNat) omg).symm) krf)
    ·exact q5 (vH (t:=96) (kt:=3) (vt:=22) (m:=.tmp 21) (x:=.tmp 23) (y:=.tmp 33) (ob:=1) (es:=esO (p.rules.l.take i)) (es':=es1 ((p.rules.l.take i)++[(p.rules.l.getD i default)]) (p.rules.l.getD i default).head) (kv:=.int .i64 (p.rules.l.getD i default).head) (d:=.ow true 29 ((ofH (p.rules.l.take i) (p.rules.l.getD i default).head).length+1) 2) rfl krf (Go.Maps.int_keyed (q:=.i64) krf) rfl rfl (by exact fun FM Z v h=>h) (by rfl) (nl hq) (fun e he=>qZ hrl he) hmp) krf
    ·refine aQ (i+1) (ep (eR (p.rules.l.getD i default).head.toNat) 30 rfl (nk omg).1 (nk omg).2.1 rfl rfl ⟨Af _,Af _,Af _,Ag rfl,trivial⟩ (wM (fun j hj=>?_) il ?_ ?_)) ?_ ?_
     ·by_cases hja:j=(p.rules.l.getD i default).head.toNat
      ·subst hja
       have e1:inH (p.rules.l.take (i+1)) (p.rules.l.getD i default).head.toNat=(cO (((ofH (p.rules.l.take i) (p.rules.l.getD i default).head).length+1)*2) (a9 (ofH (p.rules.l.take i) (p.rules.l.getD i default).head++[(p.rules.l.getD i default)]))):=by
        unfold inH
        rw[htk,hcast,hsn,List.length_append]
        rfl
       rw[e1,gv,show Nat.beq (p.rules.l.getD i default).head.toNat (p.rules.l.getD i default).head.toNat=true by simp]
       exact Ai _
      ·rw[show Nat.beq j (p.rules.l.getD i default).head.toNat=false from by
        cases h:Nat.beq j (p.rules.l.getD i default).head.toNat with
        |false=>rfl
        |true=>exact absurd (Nat.eq_of_beq_eq_true h) hja]
       have e1:inH (p.rules.l.take (i+1)) j=inH (p.rules.l.take i) j:=by
        unfold inH
        rw[htk,nj,if_neg omg]
       have e2:aS (inH (p.rules.l.take i)) (p.rules.l.getD i default).head.toNat j=inH (p.rules.l.take i) j:=by
        unfold aS
        rw[show Nat.beq j (p.rules.l.getD i default).head.toNat=false from by
         cases h:Nat.beq j (p.rules.l.getD i default).head.toNat with
         |false=>rfl
         |true=>exact absurd (Nat.eq_of_beq_eq_true h) hja]
        rfl
       rw[e1]
       refine(congrArg (fun x=>LeO x _) (Eq.trans (Eq.trans krf (kZ (f:=aS (inH (p.rules.l.take i)) (p.rules.l.getD i default).head.toNat) (r:=[(cO 2 (nth [.int .i64 (p.rules.l.getD i default).head,ao (p.rules.l.getD i default).body])),(cO 2 (am (fun j=>nth [.int .i64 0,.fz .nil 0 0 fun _ _=>.any] (j%2)) 0 2 (nth [.int .i64 (p.rules.l.getD i default).head,ao (p.rules.l.getD i default).body]))),(cO (((ofH (p.rules.l.take i) (p.rules.l.getD i default).head).length+1)*2) (a9 (ofH (p.rules.l.take i) (p.rules.l.getD i default).head++[(p.rules.l.getD i default)])))]) hj)) e2)).mpr ?_
       unfold inH
       rw[gv]
       exact Ai _
     ·rw[htk]
      show LeO (.mapo (es1 ((p.rules.l.take i)++[(p.rules.l.getD i default)]) (p.rules.l.getD i default).head)) (.mapo _)
      rw[wO (l:=(p.rules.l.take i)++[(p.rules.l.getD i default)]) (fun b hb=>?_) hq]
      ·exact Ai _
      ·obtain⟨q,q1,q2⟩:=js.1 hb
       rw[<-htk] at q1
       have:=(hr q (List.mem_of_mem_take q1)).2
       omega
     ·exact Ap (fun j hj=>(cq rfl).symm)
     ·omega
     ·omega
    ·exact absurd hi' omg
   ·have hie:i=p.rules.l.length:=by omega
    subst hie
    rw[List.take_length]
    refine b8 (vI 3 1 (esO p.rules.l) (esF p.rules.l) [3,12,13,14] omg rfl omg (by show 3<=27;omega) ?_ ?_ ?_ ?_ ?_) ?_
    ·intro b hb hlv
     rcases Nat.lt_or_ge b 27 with h|h
     ·obtain⟨a,rfl⟩:∃a,b=3+a:=⟨b-3,omg⟩
      have e:=lb (f:=inH p.rules.l) (x0:=cO 2 (nth [.int .i64 p.atoms,ae p.rules])) (x1:=.mapo (esO p.rules.l)) (x2:=cO 27 (ah p (fun _=>3) (.mp 1))) (r:=[]) (a:=a) omg
      exact⟨_,_,e,fun j _=>kM _ _⟩
     ·rw[dq (by show 27<=b;omega)] at hlv
      cases hlv
    ·unfold esO esF
     rw[List.length_map,List.length_map]
    ·intro b kv v' hb
     unfold esF at hb
     rw[List.getElem?_map] at hb
     cases hx:(bt p.rules.l)[b]? with
     |none=>rw[hx] at hb;cases hb
     |some h=>
      rw[hx] at hb
      cases hb
      have hm:=List.mem_of_getElem? hx
      obtain⟨q,q1,q2⟩:=js.1 hm
      have hq:=(hr q q1).2
      have hne:(ofH p.rules.l h).length≠0:=fun e=>(kY.1 (List.length_eq_zero_iff.1 e)) hm
      have e:=lb (f:=inH p.rules.l) (x0:=cO 2 (nth [.int .i64 p.atoms,ae p.rules])) (x1:=.mapo (esO p.rules.l)) (x2:=cO 27 (ah p (fun _=>3) (.mp 1))) (r:=[]) (a:=h.toNat) omg
      unfold inH at e
      rw[show((h.toNat:Nat):Int)=h by omega] at e
      refine⟨true,3+h.toNat,(ofH p.rules.l h).length,2,(ofH p.rules.l h).length*2,a9 (ofH p.rules.l h),?_,omg,omg,omg,e,Nat.le_refl _,Al rfl (fun i j hi hj=>?_)⟩
      ·unfold esO
       rw[List.getElem?_map,hx]
       rfl
      ·unfold a9
       rw[show(i*2+j)/2=i by omega,show(i*2+j)%2=j by omega]
    ·intro b hb hne
     match b,hb,hne with
     |0,_,_=>exact fun j hj=>(match j,hj with|0,_=>trivial|1,_=>trivial)
     |2,_,_=>exact fun j hj=>bj p _ 1 j
    ·exact⟨(by decide:2<3),trivial,trivial,trivial,trivial⟩
    refine b8 (toS (s':=⟨[(3,.ref 0 0),(12,ae p.rules),(13,.int .i64 p.rules.l.length),(14,.int .i64 p.rules.l.length)],[cO 27 (ah p (fun _=>3) (.mp 1)),.map (esF p.rules.l)],g⟩) [2,1] 3 (hob:=⟨Ap (fun j hj=>(cq rfl).symm),rfl,trivial⟩)) ?_
    have hb:decide ((p.rules.l.length:Int)<(p.rules.l.length:Int))=false:=decide_eq_false omg
    refine vcR [[1,1,0,1,0,0,1,0,0]] (lkL [(3,[3,12,13,14,15])]) (fun _=>[]) (fun Q=>(fun (u1:Int)=>(fun (u2:St R.σ)=>(decide (u1<u1)=true->WpC Tryd.prog R 36 0 66 [1,1,0,1,0,0,1,0,0] Q [Kont.seq [1,1,0,1,0,0,1,1]] u2)/\(decide (u1<u1)=false->Q (AEx.exit 0) u2)) (St.mk [(3,ref 0 0),(12,ae p.rules),(13,i6 u1),(14,i6 u1),(15,AV.bool (decide (u1<u1)))] [cO 27 (ah p (fun (x:Nat)=>3) (AV.mp 1)),AObj.map (esF p.rules.l)] g)) ((↑(List.length p.rules.l):Int))) ⟨fun hcc=>(nomatch (hb.symm.trans hcc)),fun _=>?_⟩
    refine⟨_,Ar _,vcR [] (lkL [(7,[2])]) (fun _=>[]) (fun (Q:AEx->St R.σ->Prop)=>Q AEx.ret (St.mk [(2,ref 0 0)] [cO 27 (ah p (fun (x:Nat)=>3) (AV.mp 1)),AObj.map (esF p.rules.l)] g)) (?_)⟩
    refine(aq (aR _ _ rfl trivial rfl rfl rfl) (Af _))
end Go.Avm.Pack
namespace Go.Proofs
open Go Go.Shelf
def Tryd.collectL_ren:Ren:=⟨fun|8=>75|11=>104|n=>n,fun|26=>3|28=>117|24=>53|0=>0|33=>112|4=>4|n=>n,fun n=>n⟩
theorem Tryd.collectL:SlLaysZI.n8 Tryd.prog Tryd.collectL_ren where
 mixed:=by kernel_rfl
 f8:=⟨Tryd.f75.name,by kernel_rfl,Tryd.func75.trans (congrArg some (by kernel_rfl))⟩
 f11:=⟨Tryd.f104.name,by kernel_rfl,Tryd.func104.trans (congrArg some (by kernel_rfl))⟩
 t0:=Tryd.underlying0
 a0:=Tryd.isAgg0
 z0:=Tryd.sizeOf0
 v0:=Tryd.zeroValue0
 t24:=Tryd.underlying53
 a24:=Tryd.isAgg53
 z24:=Tryd.sizeOf53
 v24:=Tryd.zeroValue53
 t26:=Tryd.underlying3
 a26:=Tryd.isAgg3
 z26:=Tryd.sizeOf3
 v26:=Tryd.zeroValue3
 t28:=Tryd.underlying117
 a28:=Tryd.isAgg117
 z28:=Tryd.sizeOf117
 v28:=Tryd.zeroValue117
 i26:=by kernel_rfl
end Go.Proofs
namespace Go.Avm.Pack
open Go Go.Avm Go.Proofs Go.RowKit Go.Shelf
attribute [local go_sem] Oper.semAt_some
theorem q6 (n s:Nat)(h0:0<s)(h1:s<2^24)(W:World)(FM:Mem)(hFM:∀b o,FM b=some o->W.heap[b]? = some o)(ht:cI gsT FM) :
  CallsIn Fence.wide n Tryd.prog 106 #[.int .u64 s] W fun e W'=>e=.returned (.int .i64 ((gy s:Nat):Int))/\W.grownBy W' none:=by
 have okh:Ok (Res.tab gsT) [] () FM [] W:=⟨⟨hFM,rfl,fun i p h=>(by simp at h),fun i j p q h=>(by simp at h)⟩,ht,fun b h=>h.elim⟩
 refine callsIn_wide.2 (((qN (Res.tab gsT) s h0 h1 ()).h FM [] W #[.int .u64 s] okh ⟨rfl,fun i hi=>?_⟩).mono ?_)
 ·have:i=0:=by simpa using hi
  subst this
  rfl
 ·rintro e W' ⟨FM',Z',⟨v,he,hv⟩,okh',go⟩
  refine⟨by rw[he,show v=_ from hv],go.ext.os,go.ext.tape,go.ext.output,go.ext.size,fun k hk _=>go.ext.keep k hk (fun ⟨p,hp,_⟩=>by cases hp) (fun h=>h)⟩
theorem q7 (s:Nat)(hs:s<2^24)(h0:0<s):bits .and .u64 ((s:Nat):Int) (((s:Nat):Int)-1)=((s&&&(s-1):Nat):Int):=by
 have h:=Tb.u64_cut h0 (bT hs)
 rw[show IntKind.u64.wrap ((s:Int)-1)=(s:Int)-1 from by
  rw[Tb.wrapu]
  have:(s:Int)<2^24:=by exact_mod_cast hs
  omega] at h
 exact h
theorem wW (n:Nat)(hn:1<=n)(l s:Nat)(hs:s<2^24)(A:Addr)(FM:Mem)(ht:cI gsT FM)(J:Nat->World->Prop)
  (hJ:∀k W,J k W->W.cell? A=some (.int .u64 (Tb.cutN s k))/\W.frozen? A=false/\(∀b o,FM b=some o->W.heap[b]? = some o))
  (hJg:∀k W W',J k W->W.grownBy W' none->J k W')
  (hY:∀k W,k<(ak s).length->J k W->YieldAt Fence.wide (n-1) Tryd.prog l #[.int .i64 ((ak s).getD k 0)] W fun e W'=>e=.returned (.bool true)/\W'.cell? A=some (.int .u64 (Tb.cutN s k))/\W'.frozen? A=false/\J (k+1) (W'.setCell A (.int .u64 (Tb.cutN s (k+1)))))
  (W:World) (h0:J 0 W) :
  CallsIn Fence.wide n Tryd.prog 105 #[.func (.yield l) #[] #[],.pointer (some A)] W fun e W'=>(∃v,e=.returned v)/\J (ak s).length W':=by
 refine callsIn_of_wp Tryd.func105 rfl trivial ?_ rfl
 simp only[Tryd.ntmps105,List.size_toArray,List.length_cons,List.length_nil,Nat.reduceAdd,Nat.reduceSub,Array.replicate_succ,Array.replicate_zero,List.push_toArray,List.append_toArray,List.nil_append,List.cons_append]
 gi_wp2
 gi_loopw [] (fun wr=>∃k,k<=(ak s).length/\J k wr) (fun wr=>match wr.cell? A with|some (.int _ v)=>v.toNat|_=>0)
 case atStart=>exact⟨0,Nat.zero_le _,h0⟩
 case round=>
  obtain⟨k,hk,hJk⟩:=hrel
  obtain⟨hc,hf,hFM⟩:=hJ k wr hJk
  have hlt:=Tb.cutN_lt hs k
  rcases Nat.lt_or_ge k (ak s).length with hkl|hkl
  ·obtain⟨m,hm⟩:=Tb.cutN_in hs hkl
   have k1:0<Tb.cutN s k:=by
    rw[hm]
    exact Nat.mul_pos (Nat.pow_pos (by decide)) (by omega)
   have k2:=kR hm hlt
   clear hm
   have hz:¬((Tb.cutN s k:Nat):Int)=0:=by omega
   have htz:=fun m=>q6 m (Tb.cutN s k) k1 hlt wr FM hFM ht
   have hYk:=fun W=>hY k W hkl
   obtain⟨x,hx⟩:∃x,(ak s).getD k 0=x:=⟨_,rfl⟩
   rw[hx] at k2
   simp only[hx] at hYk
   simp only[k2] at htz
   gi_wp2
   refine⟨trivial,(htz _).mono ?_⟩
   rintro e w' ⟨rfl,hg⟩
   have hJ':=hJg k wr w' hJk hg
   obtain⟨hc',hf',hFM'⟩:=hJ k w' hJ'
   obtain⟨fn,tmps,assign,body,hy,hR⟩:=hYk w' hJ'
   dsimp only
   gi_wp2
   refine hR.mono ?_
   rintro e W3 ⟨rfl,hc3,hf3,hJ3⟩
   dsimp only
   gi_wp2
   have hb:bits .and .u64 ((Tb.cutN s k:Nat):Int) (((Tb.cutN s k:Nat):Int)-1)=((Tb.cutN s (k+1):Nat):Int):=q7 _ hlt k1
   rw[hb]
   refine⟨⟨k+1,hkl,hJ3⟩,?_⟩
   rw[(hJ _ _ hJ3).1,hc]
   show((Tb.cutN s (k+1):Nat):Int).toNat<((Tb.cutN s k:Nat):Int).toNat
   have:Tb.cutN s (k+1)<=Tb.cutN s k-1:=Nat.and_le_right
   omega
  ·have hz:((Tb.cutN s k:Nat):Int)=0:=by rw[show k=(ak s).length by omega,Tb.cutN_end hs];rfl
   have hkk:k=(ak s).length:=by omega
   subst hkk
   gi_wp2
   go_end0
   exact⟨⟨_,rfl⟩,hJk⟩
def cL (s:Nat):List Int:=(ak s).map fun (n:Nat)=>(n:Int)
def di (w:World)(A:Addr)(s:Nat):Nat->World
 |0=>w
 |k+1=>(di w A s k).setCell A (.int .u64 (Tb.cutN s (k+1)))
theorem ed (w:World)(A:Addr)(s:Nat):∀k,(di w A s k).heap.size=w.heap.size
 |0=>rfl
 |k+1=>by
  show((di w A s k).heap.modify _ _).size=_
  rw[Array.size_modify,ed w A s k]
theorem nm (w:World)(A:Addr)(s:Nat){b:Nat}(hb:b≠A.block):∀k,(di w A s k).heap[b]? = w.heap[b]?
 |0=>rfl
 |k+1=>(RowKit.Below.heap_setCell _ _ _ b hb).trans (nm w A s hb k)
theorem lc {w:World}{A:Addr}{s:Nat}(h:w.cell? A=some (.int .u64 s)):∀k,(di w A s k).cell? A=some (.int .u64 (Tb.cutN s k))
 |0=>h
 |k+1=>World.cell?_setCell_same' _ _ _ (by rw[lc h k];rfl)
theorem wX (w:World)(A:Addr)(v:Value):(w.setCell A v).frozen? A=w.frozen? A:=by
 unfold World.frozen?
 show(match (w.heap.modify A.block _)[A.block]? with|some (.cells _ _ (lo,hi))=>_|_=>_)=_
 rw[Array.getElem?_modify]
 simp only[if_true]
 cases h:w.heap[A.block]? with
 |none=>rfl
 |some o=>cases o <;> rfl
theorem np {w:World}{A:Addr}{s:Nat}(h:w.frozen? A=false):∀k,(di w A s k).frozen? A=false
 |0=>h
 |k+1=>(wX _ _ _).trans (np h k)
theorem wY (w:World)(A:Addr)(v:Value):w.grownBy (w.setCell A v) (some A.block):=
 ⟨rfl,rfl,rfl,by show _<=(w.heap.modify _ _).size;rw[Array.size_modify];exact Nat.le_refl _,fun k _ hk=>RowKit.Below.heap_setCell _ _ _ k (fun e=>hk (by rw[e]))⟩
theorem m5 {B:Nat}{w w':World}(h:RowKit.Below B w w')(A:Addr)(v:Value):RowKit.Below B (w.setCell A v) (w'.setCell A v):=by
 refine⟨h.os,h.tape,h.output,?_,fun k hk=>?_⟩
 ·show(w.heap.modify _ _).size<=(w'.heap.modify _ _).size
  rw[Array.size_modify,Array.size_modify];exact h.size
 ·show(w'.heap.modify _ _)[k]? = (w.heap.modify _ _)[k]?
  rw[Array.getElem?_modify,Array.getElem?_modify,h.block k hk]
theorem wZ {s k:Nat}(hk:k<(ak s).length):(cL s).take k++[(((ak s).getD k 0:Nat):Int)]=(cL s).take (k+1):=by
 unfold cL
 rw[List.take_add_one,List.getElem?_map,List.getElem?_eq_getElem hk,List.getD_eq_getElem?_getD,List.getElem?_eq_getElem hk]
 rfl
theorem ld (s:Nat):(cL s).length=(ak s).length:=by unfold cL;simp
abbrev ZC:Ren:=Tryd.collectL_ren
theorem fV (s:Nat):(ak s).length<=24:=by
 unfold ak Tb.memN
 exact Nat.le_trans (List.length_filter_le _ _) (by simp)
theorem w9 (n:Nat)(hn:2<=n)(s:Nat)(hs:s<2^24)(A:Addr)(FM:Mem)(ht:cI gsT FM)(w:World)(hFM:∀b o,FM b=some o->w.heap[b]? = some o)(hFA:FM A.block=none)(hc:w.cell? A=some (.int .u64 s))(hf:w.frozen? A=false) :
  CallsIn Fence.wide n Tryd.prog 104 #[.slice none 0 0,.func (.func 105) #[] #[.pointer (some A)]] w fun e w'=>∃v,e=.returned v/\w'.ownsRow w.heap.size 3 1 v (cL s).length ((cL s).map encZ)/\(v=.slice none 0 0↔cL s=[])/\RowKit.Below w.heap.size (di w A s (ak s).length) w':=by
 have L:=Tryd.collectL
 have hAb:A.block<w.heap.size:=by
  rcases Nat.lt_or_ge A.block w.heap.size with h|h
  ·exact h
  ·rw[World.cell?,Array.getElem?_eq_none h] at hc;cases hc
 refine callsIn_of_wp_marks Tryd.func104 rfl trivial ?_ rfl
 simp only[Tryd.ntmps104,List.size_toArray,List.length_cons,List.length_nil,Nat.reduceAdd,Nat.reduceSub,Array.replicate_succ,Array.replicate_zero,List.push_toArray,List.append_toArray,List.nil_append,List.cons_append]
 gi_wp2
 refine wpIn_rangeFunc ?_
 intro fn hfn
 have hne:ZC.t 24≠ZC.t 26:=by decide
 obtain⟨W0,hW0⟩:∃W0,w.alloc (.cells #[.slice none 0 0] 53)=W0:=⟨_,rfl⟩
 rw[show Fence.wide.round=none from rfl,hW0]
 obtain⟨W1,hW1⟩:∃W1,(W0.alloc (.deferred (some []))).alloc (.loop (AnyZI.apRec ZC fn (.func (.func 105) #[] #[.pointer (some A)]) w.heap.size W0.heap.size .ready none))=W1:=⟨_,rfl⟩
 have hs0:W0.heap.size=w.heap.size+1:=by rw[<-hW0];simp
 have hs1:W1.heap.size=W0.heap.size+2:=by rw[<-hW1];simp
 have hb0:RowKit.Below w.heap.size w W0:=by rw[<-hW0];exact(RowKit.Below.refl _ w).alloc (Nat.le_refl _) _
 have hsA:w.heap.size≠A.block:=by omega
 have hb1:RowKit.Below w.heap.size w W1:=by rw[<-hW1];exact(hb0.alloc hb0.size _).alloc (by have:=hb0.size;simp;omega) _
 have old:∀k,k<W0.heap.size->W1.heap[k]? = W0.heap[k]?:= fun k hk=>by
  rw[<-hW1];exact(RowKit.Below.heap_alloc _ _ k (by simp;omega)).trans (RowKit.Below.heap_alloc _ _ k hk)
 have hbox:W1.heap[w.heap.size]? = some (.cells #[.slice none 0 0] (ZC.t 24) (0,0)):=(old _ (by omega)).trans (by rw[<-hW0];exact World.alloc_heap_new w _)
 have hD:W1.heap[W0.heap.size]? = some (.deferred (some [])):=by rw[<-hW1];exact(RowKit.Below.heap_alloc _ _ _ (by simp)).trans (World.alloc_heap_new W0 _)
 have hL:W1.heap[W0.heap.size+1]? = some (.loop (AnyZI.apRec ZC fn (.func (.func 105) #[] #[.pointer (some A)]) w.heap.size W0.heap.size .ready none)):=by
  rw[<-hW1]
  have:=World.alloc_heap_new (W0.alloc (.deferred (some []))) (.loop (AnyZI.apRec ZC fn (.func (.func 105) #[] #[.pointer (some A)]) w.heap.size W0.heap.size .ready none))
  rwa [World.size_alloc] at this
 let J:Nat->World->Prop:=fun k W=>AnyZI.ApAt ZC (di w A s k) fn (.func (.func 105) #[] #[.pointer (some A)]) w.heap.size (W0.heap.size+1) W0.heap.size ((cL s).take k) W
 have hJ:∀k W,J k W->W.cell? A=some (.int .u64 (Tb.cutN s k))/\W.frozen? A=false/\(∀b o,FM b=some o->W.heap[b]? = some o):=fun k W h=>by
  have hb:=h.below
  rw[ed] at hb
  refine⟨(hb.cell hAb).trans (lc hc k),(hb.frozen hAb).trans (np hf k),fun b o hbo=>?_⟩
  have h1:=hFM b o hbo
  rw[hb.block b (Array.getElem?_eq_some_iff.1 h1).1,nm w A s (fun e=>by rw[e,hFA] at hbo;cases hbo),h1]
 have hJ0:J 0 W1:=⟨⟨_,hbox,⟨by simp,.inl ⟨rfl,by simp⟩⟩,by simp⟩,hL,hD,hb1⟩
 refine⟨W0.heap.size+1,[{ target:=.collected W0.heap.size,args:=#[] }],W1,{ target:=.fn (.func 105) #[.pointer (some A)],args:=#[.func (.yield (W0.heap.size+1)) #[] #[]] },W1,105,
  #[.func (.yield (W0.heap.size+1)) #[] #[],.pointer (some A)],W1,?_,?_,?_,?_,fun _=>(by omega),(wW (n-1) (by omega) (W0.heap.size+1) s hs A FM ht J hJ (fun k W W' h hg=>?_) (fun k W hk h=>?_) W1 hJ0).mono ?_⟩
 ·rw[<-hW1];exact run_enterLoop_outer _ _ _ _ _
 ·simp[resolve,go_sem]
 ·intro f' hf';trivial
 ·simp[invoke,go_sem]
 ·exact AnyZI.ap_abides ZC _ _ _ _ _ _ _ (Nat.le_refl _) _ _ _ none h hg (fun r e=>by cases e)
 ·have hlen:((cL s).take k).length<24:=by
   have:=fV s
   rw[List.length_take,ld];omega
  obtain⟨fn',tmps,assign,body,hy,hR⟩:=AnyZI.apYield (ρ:=ZC) { L with } Fence.wide (n-1-1) (di w A s k) fn hfn (.func (.func 105) #[] #[.pointer (some A)]) w.heap.size (W0.heap.size+1) W0.heap.size (by omega) (by omega) (by omega) (by rw[ed];exact Nat.le_refl _) (by rw[ed];omega) 24 (by decide) (by decide) ((cL s).take k) (((ak s).getD k 0:Nat):Int) W h hlen
  refine⟨fn',tmps,assign,body,hy,hR.mono ?_⟩
  rintro e W' ⟨he,h',hk'⟩
  obtain⟨v,hv,hrow,hnil⟩:=h'.box
  have hb':=h'.below
  rw[ed] at hb'
  refine⟨he,(hb'.cell hAb).trans (lc hc k),(hb'.frozen hAb).trans (np hf k),?_⟩
  have hgs:=wY W' A (.int .u64 (Tb.cutN s (k+1)))
  rw[wZ hk] at hrow hnil
  refine⟨⟨v,(RowKit.Below.heap_setCell _ _ _ _ hsA).trans hv,?_,hnil⟩,(RowKit.Below.heap_setCell _ _ _ _ (by omega)).trans h'.L,(RowKit.Below.heap_setCell _ _ _ _ (by omega)).trans h'.K,?_⟩
  ·rw[ed] at hrow ⊢
   refine hrow.kept hgs ?_
   rcases hrow.2 with⟨rfl,_⟩|⟨g,cap,cur,rfl,hg,_⟩
   ·exact .inl rfl
   ·refine .inr (fun e=>?_)
    have:g=A.block:=by simpa[Value.ownBlock] using e
    omega
  ·rw[ed]
   exact m5 hb' A _
 ·rintro e W2 ⟨⟨v0,rfl⟩,h2⟩
  have h2:J (ak s).length W2:=h2
  obtain⟨v,hv,hrow,hnil⟩:=h2.box
  rw[show(cL s).take (ak s).length=cL s by rw[<-ld,List.take_length]] at hrow hnil
  rw[ed] at hrow
  have hb2:=h2.below
  rw[ed] at hb2
  have hend:=run_endLoop (P:=Tryd.prog) h2.L (by simp[AnyZI.apRec])
  obtain⟨W3,hW3⟩:∃W3,W2.putObj (W0.heap.size+1) (.loop { AnyZI.apRec ZC fn (.func (.func 105) #[] #[.pointer (some A)]) w.heap.size W0.heap.size .ready none with state:=.exhausted })=W3:=⟨_,rfl⟩
  rw[hW3] at hend
  have hg3:W2.grownBy W3 (some (W0.heap.size+1)):=by rw[<-hW3];exact grownBy_putObj_a _ _ _
  have hv3:W3.heap[w.heap.size]? = some (.cells #[v] (ZC.t 24) (0,0)):=by rw[<-hW3];exact(World.putObj_heap_other (by omega)).trans hv
  have hD3:W3.heap[W0.heap.size]? = some (.deferred (some [])):=by rw[<-hW3];exact(World.putObj_heap_other (by omega)).trans h2.K
  have hrow3:=hrow.kept hg3 (ownsRow_ne_a hrow h2.L (fun cur e=>by cases e))
  have hb3:RowKit.Below w.heap.size (di w A s (ak s).length) W3:=hb2.grown hg3 (by have:=hb2.size;rw[ed] at this;exact this) (fun k e=>by cases e;omega)
  obtain⟨hc3,hf3⟩:=cell_of_box_a hv3
  clear hW3
  refine⟨none,W3,hend,?_⟩
  gi_wp2
  rw[<-hs0]
  refine⟨by simp,.inl ⟨_,_,rfl,run_takeDeferred hD3,?_⟩⟩
  exact⟨_,results_tmp rfl _ _ _,v,rfl,hrow3.kept (grownBy_putObj_a _ _ _) (ownsRow_ne_a hrow3 hD3 (fun cur e=>by cases e)),hnil,hb3.grown (grownBy_putObj_a _ _ _) (by have:=hb3.size;rw[ed] at this;exact this) (fun k e=>by cases e;omega)⟩
theorem xa (s:Nat)(hs:s<2^24)(A:Addr)(FM:Mem)(ht:cI gsT FM)(w:World)(hFM:∀b o,FM b=some o->w.heap[b]? = some o)(hFA:FM A.block=none)(hc:w.cell? A=some (.int .u64 s))(hf:w.frozen? A=false) :
  Calls Tryd.prog 75 #[.func (.func 105) #[] #[.pointer (some A)]] w fun e w'=>∃v,e=.returned v/\w'.ownsRow w.heap.size 3 1 v (cL s).length ((cL s).map encZ)/\(v=.slice none 0 0↔cL s=[])/\RowKit.Below w.heap.size (di w A s (ak s).length) w':=by
 refine(callsIn_wide (n:=4)).1 ?_
 have hap:=w9 3 (by omega) s hs A FM ht w hFM hFA hc hf
 refine callsIn_of_wp Tryd.func75 rfl trivial ?_ rfl
 simp only[Tryd.ntmps75,List.size_toArray,List.length_cons,List.length_nil,Nat.reduceAdd,Nat.reduceSub,Array.replicate_succ,Array.replicate_zero,List.push_toArray,List.append_toArray,List.nil_append,List.cons_append]
 gi_wp2
 refine⟨trivial,hap.mono ?_⟩
 rintro e w' ⟨v,rfl,hrow,hnil,hb⟩
 dsimp only
 gi_wp2
 go_ret
 exact⟨v,rfl,hrow,hnil,hb⟩
theorem q8 {w:World}{A:Addr}{s:Nat}{cs:Array Value}{e:TypeId}{fz:Nat × Nat}(h:w.heap[A.block]? = some (.cells cs e fz)):∀k,∃cs',(di w A s k).heap[A.block]? = some (.cells cs' e fz)/\cs'.size=cs.size
 |0=>⟨cs,h,rfl⟩
 |k+1=>by
  obtain⟨cs',h1,h2⟩:=q8 (s:=s) h k
  refine⟨if A.spot.isSome then cs' else cs'.setIfInBounds A.off (.int .u64 (Tb.cutN s (k+1))),?_,?_⟩
  ·show((di w A s k).heap.modify A.block _)[A.block]? = _
   rw[Array.getElem?_modify,h1]
   simp only[if_true]
   rfl
  ·split
   ·exact h2
   ·rw[Array.size_setIfInBounds,h2]
theorem q9 (w:World)(A:Addr)(s:Nat):∀k,(di w A s k).os=w.os/\(di w A s k).tape=w.tape/\(di w A s k).output=w.output
 |0=>⟨rfl,rfl,rfl⟩
 |k+1=>q9 w A s k
def nq (s:Nat):Nat->AV:=fun j=>.int .i64 (((ak s).getD j 0:Nat):Int)
theorem lf (R:Res)[Tab LT R](s:Nat)(hs:s<2^24)(g:R.σ):Does Tryd.prog R 75 [.fn 105 0 (nth []) 1 (nth [.ref 0 0])] [.cells false 1 (fun _=>.int .u64 s)] g
  (.ret (.ow true 1 (ak s).length 1)) [.cells false 1 (fun _=>.any),.cells false ((ak s).length*1) (nq s)] g:=by
 refine⟨fun FM Z w vs okh hvs=>?_⟩
 have hT:cI gsT FM:=Tab.h (T:=LT) okh.j
 obtain⟨hsz,hden⟩:=hvs
 have h0:=hden 0 (by simp)
 obtain⟨xs,ys,hu,hxs,hys,_,hdb⟩:=h0
 obtain⟨p,hp,hy0⟩:=hdb 0 (by omega)
 have hxs0:xs=#[]:=Array.size_eq_zero_iff.1 hxs
 subst hxs0
 have hysE:ys=#[.pointer (some ⟨p.1,p.2.1,none⟩)]:=by
  refine Array.ext (by simp[hys]) (fun i h1 h2=>?_)
  have:i=0:=by simp at h2;omega
  subst this
  rw[Array.getD_eq_getD_getElem?,Array.getElem?_eq_getElem h1] at hy0
  simpa using hy0
 have hvsE:vs=#[.func (.func 105) #[] #[.pointer (some ⟨p.1,p.2.1,none⟩)]]:=by
  have hsz1:vs.size=1:=by simpa using hsz
  refine Array.ext (by simp[hsz1]) (fun i h1 h2=>?_)
  have:i=0:=by simp at h2;omega
  subst this
  rw[Array.getD_eq_getD_getElem?,Array.getElem?_eq_getElem h1] at hu
  rw[hysE] at hu
  simpa using hu
 obtain⟨A,hA⟩:∃A:Addr,A=⟨p.1,p.2.1,none⟩:=⟨_,rfl⟩
 have hAb:A.block=p.1:=by rw[hA]
 obtain⟨k1,k2⟩:=okh.rel.obj 0 p hp
 obtain⟨cs,e,b1,b2,b3,b4,_,b6⟩:=k2 (by omega)
 obtain⟨x,c1,c2,c3⟩:=b4 0 (by omega)
 have hx:x=.int .u64 s:=c3
 subst hx
 have hcell:w.cell? A=some (.int .u64 s):=by rw[hA];simp only[World.cell?,b1];simpa using c1
 have hfroz:w.frozen? A=false:=by rw[hA];simp[World.frozen?,b1]
 have hreal:p.2.1<=p.2.2:=by omega
 have hAlt:A.block<w.heap.size:=by rw[hAb];exact k1 hreal
 have hin:InB Z A.block:=⟨p,bk hp,hAb.symm,hreal⟩
 have hFA:FM A.block=none:=by rw[hAb];exact b6 rfl
 rw[hvsE,<-hA]
 refine(xa s hs A FM hT w okh.rel.fm hFA hcell hfroz).mono ?_
 rintro en w' ⟨v,rfl,hrow,hnil,hb⟩
 obtain⟨o1,o2,o3⟩:=q9 w A s (ak s).length
 have hsize:w.heap.size<=w'.heap.size:=by have:=hb.size;rwa [ed] at this
 have hheap:∀b,b<w.heap.size->b≠A.block->w'.heap[b]? = w.heap[b]?:= fun b h1 h2=>(hb.block b h1).trans (nm w A s h2 _)
 obtain⟨cs',s1,s2⟩:=q8 (s:=s) (A:=A) (by rw[hAb];exact b1) (ak s).length
 have hA':w'.heap[A.block]? = some (.cells cs' e (0,0)):=(hb.block _ hAlt).trans s1
 have hcell':w'.cell? A=some (.int .u64 (Tb.cutN s (ak s).length)):=(hb.cell hAlt).trans (lc hcell _)
 -- the new place
 have hZl:Z.length=1:=okh.rel.len
 have hFMs:∀b o,FM b=some o->w'.heap[b]? = some o:=fun b o h=>by
  have h1:=okh.rel.fm b o h
  exact(hheap b (Array.getElem?_eq_some_iff.1 h1).1 (fun e=>by rw[e,hFA] at h;cases h)).trans h1
 obtain⟨q,q1,q2,q3,q4⟩:∃q:Nat × Nat × Nat,(∀Z':Plc,Z'[1]? = some q->Den FM Z' (.ow true 1 (ak s).length 1) v)/\(q.2.1<=q.2.2->q.1<w'.heap.size)/\(q.2.1<=q.2.2->w.heap.size<=q.1)/\(∀Z',cn FM Z' q w' (.cells false ((ak s).length*1) (nq s))):=by
  rw[ld] at hrow
  rcases hrow.2 with⟨rfl,hn0⟩|⟨g',cap,cur,rfl,hg',hh,h5,_,h6,h7⟩
  ·refine⟨dJ,fun Z' _=>⟨fun _=>⟨none,rfl,fun _=>rfl⟩,fun h=>absurd hn0 h⟩,fun h=>absurd h (by simp[dJ]),fun h=>absurd h (by simp[dJ]),fun Z' hlt=>?_⟩
   rw[hn0] at hlt
   exact absurd hlt (by omega)
  ·have hfmg:FM g'=none:=by
    cases hx:FM g' with
    |none=>rfl
    |some o=>have:=(Array.getElem?_eq_some_iff.1 (okh.rel.fm g' o hx)).1;omega
   refine⟨(g',0,cur.size),fun Z' hp'=>⟨fun hz=>?_,fun _=>⟨_,cap,hp',by rfl,h5,by simp[h6]⟩⟩,fun _=>(Array.getElem?_eq_some_iff.1 hh).1,fun _=>hg',fun Z' hlt=>⟨cur,_,hh,by show 0+_<=_;rw[h6];omega,rfl,fun j hj=>?_,fun h=>(by cases h),fun _=>hfmg⟩⟩
   ·exfalso
    have:=hnil.2 (List.length_eq_zero_iff.1 (by rw[ld];exact hz))
    cases this
   ·have hj':j<(ak s).length:=by omega
    refine⟨.int .i64 (((ak s).getD j 0:Nat):Int),?_,rfl,rfl⟩
    have e1:cur[j]? = ((cL s).map encZ)[j]?:= by
     rw[<-h7,List.getElem?_take,if_pos (by omega),Array.getElem?_toList]
    show cur[0+j]? = _
    rw[Nat.zero_add,e1]
    unfold cL
    rw[List.map_map,List.getElem?_map,List.getElem?_eq_getElem hj',List.getD_eq_getElem?_getD,List.getElem?_eq_getElem hj']
    rfl
 have hq1:(Z++[q])[1]? = some q:=by rw[<-hZl];simp
 have hpl:p.1<w.heap.size:=by rw[<-hAb];exact hAlt
 have hback:∀i r,(Z++[q])[i]? = some r->(i=0/\r=p)∨(i=1/\r=q):=fun i r hi=>by
  have hi1:i<2:=by have:=(List.getElem?_eq_some_iff.1 hi).1;simp[hZl] at this;omega
  rcases Nat.lt_or_ge i 1 with h|h
  ·have:i=0:=by omega
   subst this
   rw[List.getElem?_append_left (by omega),hp] at hi
   cases hi
   exact .inl ⟨rfl,rfl⟩
  ·have:i=1:=by omega
   subst this
   rw[hq1] at hi
   cases hi
   exact .inr ⟨rfl,rfl⟩
 refine⟨FM,Z++[q],⟨v,rfl,q1 _ hq1⟩,⟨⟨hFMs,by simp[hZl],fun i r hi=>?_,fun i j r t hi hj hli hlj hrt=>?_⟩,R.st okh.j ⟨fun _ _ h=>h,fun _ _=>rfl,hFMs,fun b h=>hheap b (okh.bd b h).1 (fun e=>(okh.bd b h).2 (e▸hin)),hsize,hb.os.trans o1,hb.tape.trans o2,hb.output.trans o3⟩,fun b h=>⟨Nat.lt_of_lt_of_le (okh.bd b h).1 hsize,?_⟩⟩,
  ⟨⟨fun _ _ h=>h,fun b o h=>.inl h,fun b h=>?_,fun b h1 h2 h3=>hheap b h1 (fun e=>h2 (e▸hin)),hsize,hb.os.trans o1,hb.tape.trans o2,hb.output.trans o3⟩,fun b h=>.inl h,Sub.snoc _ _⟩⟩
 ·rcases hback i r hi with⟨rfl,rfl⟩|⟨rfl,rfl⟩
  ·refine⟨fun h=>Nat.lt_of_lt_of_le (k1 h) hsize,fun _=>⟨cs',e,by rw[<-hAb];exact hA',by omega,by omega,fun j hj=>?_,fun h=>(by cases h),fun _=>?_⟩⟩
   ·have:j=0:=by omega
    subst this
    refine⟨.int .u64 (Tb.cutN s (ak s).length),?_,rfl,trivial⟩
    simp only[World.cell?,hA'] at hcell'
    rw[hA] at hcell'
    simpa using hcell'
   ·rw[<-hAb];exact hFA
  ·exact⟨q2,q4 _⟩
 ·rcases hback i r hi with⟨rfl,rfl⟩|⟨rfl,rfl⟩ <;> rcases hback j t hj with⟨rfl,rfl⟩|⟨rfl,rfl⟩
  ·rfl
  ·exfalso
   have hn:0<(ak s).length*1:=by simpa[aK,ag] using hlj
   obtain⟨cs2,e2,d1,d2,d3,_⟩:=q4 Z hn
   have:=q3 (by omega)
   omega
  ·exfalso
   have hn:0<(ak s).length*1:=by simpa[aK,ag] using hli
   obtain⟨cs2,e2,d1,d2,d3,_⟩:=q4 Z hn
   have:=q3 (by omega)
   omega
  ·rfl
 ·rintro ⟨r,hr,hrb,hre⟩
  rcases List.mem_append.1 hr with hr|hr
  ·exact(okh.bd b h).2 ⟨r,hr,hrb,hre⟩
  ·have:r=q:=by simpa using hr
   subst this
   have:=q3 hre
   have:=(okh.bd b h).1
   omega
 ·obtain⟨r,hr,hrb,hre⟩:=h
  rcases List.mem_append.1 hr with hr|hr
  ·exact .inl ⟨r,hr,hrb,hre⟩
  ·have:r=q:=by simpa using hr
   subst this
   exact .inr (by rw[<-hrb];exact q3 hre)
theorem xb (R:Res)[Tab LT R](s:Nat)(hs:s<2^24)(g:R.σ):Does Tryd.prog R 75 [.fn 105 0 (nth []) 1 (nth [.ref 0 0])] [.cells false 1 (fun _=>.int .u64 s)] g
  (.ret (.fz .auto 1 (ak s).length (fun i _=>.int .i64 (((ak s).getD i 0:Nat):Int)))) [.cells false 1 (fun _=>.any)] g:=by
 refine fM (uS 1 [1] (hp2:=[.cells false 1 (fun _=>.any)]) (x:=.fz .auto 1 (ak s).length (fun i j=>nq s (i*1+j))) (lf R s hs g) (Nat.le_refl _) ⟨fun j _=>trivial,by show(ak s).length*1<=_;omega,trivial⟩ trivial ⟨fun j _=>trivial,trivial⟩ rfl rfl) (i5 ⟨Al rfl (fun i j hi hj=>?_),trivial⟩ ⟨Ai _,trivial⟩ rfl)
 show AV.int .i64 _=_
 rw[show i*1+j=i by omega]
end Go.Avm.Pack
namespace Go.Avm.Pack
open Go Go.Avm Go.Proofs
open Go.IntKind (i64 u64)
open Go.Avm.AV (int bool any fz fp sl ow ref fn ifc val agg tup)
open Go.Avm.AObj (cells dead)
open Go.Avm.Oc (ret)
set_option maxRecDepth 4000
def clr (s a:Nat):Nat:=(BitVec.ofNat 64 s &&& ~~~ BitVec.ofNat 64 (2^a)).toNat
theorem nr {s a:Nat}(hs:s<2^24)(ha:a<24)(j:Nat):(clr s a).testBit j=(s.testBit j&&decide (j≠a)):=by
 unfold clr
 rw[BitVec.testBit_toNat,BitVec.getLsbD_and,BitVec.getLsbD_not,BitVec.getLsbD_ofNat,BitVec.getLsbD_ofNat,Nat.testBit_two_pow]
 by_cases hj:j<64
 ·simp only[hj,decide_true,Bool.true_and]
  by_cases h:j=a
  ·subst h;simp
  ·have h':¬a=j:=fun e=>h e.symm
   simp[h,h']
 ·rw[Nat.testBit_lt_two_pow (Nat.lt_of_lt_of_le (bT hs) (Nat.pow_le_pow_right dcd omg))]
  simp[hj]
theorem ir {s a:Nat}(hs:s<2^24):clr s a<=s:=by
 unfold clr
 rw[BitVec.toNat_and]
 refine Nat.le_trans Nat.and_le_left ?_
 rw[BitVec.toNat_ofNat]
 exact Nat.mod_le _ _
theorem xd {s a:Nat}(hs:s<2^24)(ha:a<24):IntKind.u64.wrap ((BitVec.ofInt 64 (s:Int) &&& ~~~ BitVec.ofInt 64 ((2^a:Nat):Int)).toNat:Int)=((clr s a:Nat):Int):=by
 rw[BitVec.ofInt_natCast,BitVec.ofInt_natCast]
 exact Tb.wrapU (bT (Nat.lt_of_le_of_lt (ir (a:=a) hs) hs))
def cS (v:Nat->Int)(r:Rule):Bool:=v r.head.toNat==3&&cF v r
def bi (p:Prg)(v:Nat->Int):Int:=aE (cS v) p.rules.l 0
theorem xe (R:Res)(p:Prg)(v:Nat->Int)(es:List (Value × AV))(r:Rule)(h:aP r)(g:R.σ):Does Tryd.prog R 113 [bS r,.ref 2 0] [cO 27 (ah p v (.mp 1)),.map es,cO 1 (fun _=>.ref 0 0)] g (.ret (.bool (cS v r))) [cO 27 (ah p v (.mp 1)),.map es,cO 1 (fun _=>.ref 0 0)] g:=by
 have h1:=h.1
 have h2:=h.2
 refine spW (nt:=19) (rs:=[.tmp 3]) (k0:=3) ?_
 refine vcR [] (lkL [(0,[1,2]),(1,[3])]) (lkL [(1,[(6,ROrc.kop (i6 (v (Int.toNat r.head)))),(13,ROrc.kcall (AV.bool (cF v r)))])]) (fun Q=>(fun (u1:List AObj)=>(fun (u2:Int)=>Flw Tryd.prog/\1<=1/\1<=2/\(0<=r.head/\r.head<(↑24:Int))/\OpOk Tryd.prog R (Oper.mk (some 10) (Op.load 43 (Operand.tmp 9)) 43 "table.go:168" #[Edge.mk 5 Ground.data] none) (evO [Row.mk (some 9) none (ref 0 (Int.toNat r.head+2)) false (some []) [],Row.mk (some 8) none (ref 0 2) false (some []) [],Row.mk (some 7) none (ref 0 0) false (some []) [],Row.mk (some 6) none (i6 r.head) false (some []) [3],Row.mk (some 5) none (ref 3 0) false (some []) [],Row.mk (some 4) none (ref 0 0) false (some []) [2]] [(1,ref 2 0),(2,ref 3 0)] []) u1 g (i6 u2) u1 g/\((u2==3)=true->1<=1)/\((u2==3)=true->2<=2)/\((u2==3)=true->true=true/\Does Tryd.prog R 114 [ref 0 2,bS r] u1 g (ret (AV.bool (cF v r))) u1 g)/\Q AEx.ret (St.mk [(3,AV.bool (bif u2==3 then cF v r else false))] u1 g)) (v (Int.toNat r.head))) ([cO 27 (ah p v (AV.mp 1)),AObj.map es,cO 1 fun x=>ref 0 0,cO 2 (nth [i6 r.head,ao r.body])])) ⟨krf,omg,omg,omg,?_,omg,omg,(fun hgd=>⟨rfl,(doS [0,1] 4 (fun R g=>nc R (p) (v) (es) (r) omg g))⟩),?_⟩
 ·exact fh rfl rfl krf rfl (by show _+1<=27;omega) (fq omg omg)
 ·refine(aq (cE 3 _ _ rfl trivial omg trivial ⟨(fun _ _=>(by first|exact trivial|apply bj)),(fun j hj=>match j,hj with|0,_=>(show 1<=3 by omega) ),trivial⟩ krf rfl rfl) (Ag krf))
def cT (p:Prg)(v:Nat->Int)(s:Nat)(l:List Nat):Nat:=l.foldl (fun (s:Nat) (a:Nat)=>if (ofH p.rules.l (a:Int)).any (bX v s) then clr s a else s) s
def bJ (p:Prg)(v:Nat->Int)(s:Nat):Nat:=cT p v s (ak s)
def dT (p:Prg)(v:Nat->Int):Nat->Nat->Nat
 |0,s=>s
 |n+1,s=>if bJ p v s=s then s else dT p v n (bJ p v s)
def gre (p:Prg)(v:Nat->Int):Nat:=dT p v (2^24+1) (aD v 3 p.atoms.toNat)
theorem xf {p:Prg}{v:Nat->Int}{s:Nat}{l:List Nat}{k:Nat}(hk:k<l.length):cT p v s (l.take (k+1))=if (ofH p.rules.l (l.getD k 0:Int)).any (bX v (cT p v s (l.take k))) then clr (cT p v s (l.take k)) (l.getD k 0) else cT p v s (l.take k):=by
 unfold cT
 rw[List.take_add_one,List.foldl_append,List.getElem?_eq_getElem hk,List.getD_eq_getElem?_getD,List.getElem?_eq_getElem hk]
 rfl
theorem ft {p:Prg}{v:Nat->Int}:∀{l:List Nat} {s:Nat},s<2^24->cT p v s l<=s
 |[],s,_=>Nat.le_refl _
 |a::l,s,hs=>by
  show cT p v (if (ofH p.rules.l (a:Int)).any (bX v s) then clr s a else s) l<=s
  split
  ·exact Nat.le_trans (ft (Nat.lt_of_le_of_lt (ir hs) hs)) (ir hs)
  ·exact ft hs
theorem xg (p:Prg)(v:Nat->Int)(n:Nat):dT p v n 0=0:=by
 cases n with
 |zero=>rfl
 |succ n=>
  have h:bJ p v 0=0:=by
   have:=ft (p:=p) (v:=v) (l:=ak 0) (s:=0) dcd
   exact Nat.le_zero.1 this
  show(if bJ p v 0=0 then 0 else _)=0
  rw[if_pos h]
structure Stp where
 rule:Int
 atoms:List Int
 deriving Inhabited,DecidableEq
def aB (s:Nat):List Int:=(ak s).map (fun (a:Nat)=>(a:Int))
theorem eS (s:Nat):(aB s).length=(ak s).length:=by unfold aB;rw[List.length_map]
theorem gE (s j:Nat):(aB s).getD j 0=(((ak s).getD j 0:Nat):Int):=by
 unfold aB
 rw[List.getD_eq_getElem?_getD,List.getD_eq_getElem?_getD,List.getElem?_map]
 cases (ak s)[j]? <;> rfl
def al (p:Prg)(v:Nat->Int):Stp:=if 0<=bi p v then⟨bi p v,[(p.rules.l.getD (bi p v).toNat default).head]⟩ else⟨-1,aB (gre p v)⟩
def aX (p:Prg)(v:Nat->Int):Bool:=decide (0<=bi p v)||gre p v != 0
def ac (l:List Int):Nat->AV:=fun j=>.int .i64 (l.getD j 0)
theorem ra {U:Type}(q:U->Bool):∀(l:List U) (i:Nat),aE q l i<(i:Int)+l.length
 |[],i=>by show(-1:Int)<_;simp;omega
 |x::r,i=>by
  unfold aE
  split
  ·simp;omega
  ·have:=ra q r (i+1)
   simp only[List.length_cons]
   omega
theorem Ao {o n es:Nat}{x ex:Bool}(h:n≠0):Le (.sl o 0 n n ex es) (.ow x o n es):=by
 rintro FM Z v ⟨p,cap',h1,rfl,h3,_,h5⟩
 refine⟨fun e=>absurd e h,fun _=>⟨p,cap',h1,by rw[Nat.add_zero],h3,omg⟩⟩
theorem xh (R:Res)(p:Prg)(v:Nat->Int)(es:List (Value × AV))(n:Int)(x:Int)(h:0<=n/\n<=24)(g:R.σ):Does Tryd.prog R 76 [.ref 0 2,.int .i64 n,.int .i64 x] [cO 27 (ah p v (.mp 1)),.map es] g (.ret (.int .u64 (aD v x n.toNat))) [cO 27 (ah p v (.mp 1)),.map es] g:=by
 obtain⟨m,rfl⟩:∃m:Nat,n=m:=⟨n.toNat,omg⟩
 exact wy R p v es m x omg g
theorem ns (R:Res)[Tab LT R](p:Prg)(v:Nat->Int)(es:List (Value × AV))(hl:p.rules.l.length<1000000)(hr:∀r,r∈p.rules.l->aP r)(hes:HeadsOk es p.rules.l)(hp:1<=p.atoms/\p.atoms<=24)(g:R.σ):Does Tryd.prog R 96 [.ref 0 0] [cO 27 (ah p v (.mp 1)),.map es] g (.ret (.tup 2 (nth [.agg 2 (nth [.int .i64 (al p v).rule,.ow true 2 (al p v).atoms.length 1]),.bool (aX p v)]))) [cO 27 (ah p v (.mp 1)),.map es,cO ((al p v).atoms.length*1) (ac (al p v).atoms)] g:=by
 have hlt:=ra (cS v) p.rules.l 0
 refine spW (nt:=59) (rs:=[.cell 2 71,.tmp 3]) (k0:=2) ?_
 refine vcR [] (lkL [(0,[1,2]),(1,[1,2,4]),(2,[1,2,4,16]),(3,[2,3]),(4,[1,2,5]),(5,[1,2,5,6])]) (lkL [(1,[(6,ROrc.kcall (i6 (aE (cS v) p.rules.l 0)))]),(3,[(12,ROrc.val (Orc.obj (nth [i6 (aE (cS v) p.rules.l 0),sl 4 0 1 1 true 1])))]),(4,[(8,ROrc.lcall (int u64 (↑(aD v 3 (Int.toNat p.atoms)):Int)) [0,1]),(10,ROrc.val (Orc.obj (nth [int u64 (↑(aD v 3 (Int.toNat p.atoms)):Int)])))])]) (fun Q=>(fun (u1:List AObj)=>(fun (u2:Int)=>(fun (u3:AV)=>(fun (u4:List AV)=>1<=1/\2<=27/\(true=true/\Does Tryd.prog R 112 [ae p.rules,fn 113 0 (nth []) 1 (nth [ref 2 0])] u1 g (ret (i6 u2)) u1 g)/\(decide (u2 >= 0)=true->1<=1/\2<=27/\(0<=u2/\u2<(↑(List.length p.rules.l):Int))/\1<=2/\2<=2/\(∀(c:Nat),c<2->nth u4 c=am (nth [i6 0,fz Fz.nil 0 0 fun x x_1=>any]) 0 2 (List.brecOn (motive:=fun (x:List AV)=>Nat->AV) u4 nth._f) c)/\Q AEx.ret (St.mk [(2,ref 3 0),(3,AV.bool true)] [cO 27 (ah p v (AV.mp 1)),AObj.map es,cO 1 fun a=>ref 0 0,cO 2 (nth u4),cO 1 (am (fun (j:Nat)=>i6 0) 0 1 fun x=>i6 (List.getD p.rules.l (Int.toNat u2) default).head)] g))/\(decide (u2 >= 0)=false->Flw Tryd.prog/\1<=1/\1<=1/\1<=27/\(∀(hp':List AObj) (g':R.σ),SameO [0,1] u1 hp'->true=true/\Does Tryd.prog R 76 [ref 0 2,i6 p.atoms,i6 3] hp' g' (ret u3) hp' g')/\1<=1/\(∀(c:Nat),c<1->nth [u3] c=am (fun (a:Nat)=>int u64 0) 0 1 (fun (x:Nat)=>u3) c)/\WpC Tryd.prog R 59 2 96 [1,1,1,1,0,1,0] Q [Kont.blk 0,Kont.seq [1,1,1,1,1]] (St.mk [(1,ref 2 0),(2,ref 3 0),(5,ref 4 0),(6,int u64 0)] [cO 27 (ah p v (AV.mp 1)),AObj.map es,cO 1 fun a=>ref 0 0,cO 2 (nth [i6 0,fz Fz.nil 0 0 fun x x_1=>any]),cO 1 (nth [u3])] g))) ([i6 u2,sl 4 0 1 1 true 1])) (int u64 (↑(aD v 3 (Int.toNat p.atoms)):Int))) (aE (cS v) p.rules.l 0)) ([cO 27 (ah p v (AV.mp 1)),AObj.map es,cO 1 fun a=>ref 0 0,cO 2 (nth [i6 0,fz Fz.nil 0 0 fun x x_1=>any])])) ⟨omg,omg,⟨rfl,(wg _ _ _ _ _ _ _ _ _ _ omg krf (fun r _=>(doT (T:=LT) [0,1,2] 4 (fun R _ g=>xe R (p) (v) (es) (r) ?_ g))))⟩,fun c1=>have c1:aE (cS v) p.rules.l 0 >= 0:=(of_decide_eq_true c1);⟨omg,omg,omg,omg,omg,(fun c hc=>match c,hc with|0,_=>krf|1,_=>krf ),?_⟩,fun c1=>have c1:¬aE (cS v) p.rules.l 0 >= 0:=(of_decide_eq_false c1);⟨krf,omg,omg,omg,?_,omg,(fun c hc=>match c,hc with|0,_=>krf ),?_⟩⟩
 ·exact hr _ (by assumption)
 ·have c1':0<=bi p v:=by unfold bi;omega
  have hn:al p v=⟨bi p v,[(p.rules.l.getD (bi p v).toNat default).head]⟩:=if_pos c1'
  have hb:aX p v=true:=by unfold aX;rw[decide_eq_true c1'];rfl
  rw[hn,hb]
  refine eL (.tup 2 (nth [.agg 2 (nth [.int .i64 (bi p v),.sl 4 0 1 1 true 1]),.bool true])) _ rfl (by exact⟨dcd,trivial⟩) (toS [0,1,4] 5 (hfr:=⟨Aj (fun j hj=>match j,hj with|0,_=>Ak (fun j hj=>match j,hj with|0,_=>Af _|1,_=>Ao dcd)|1,_=>Af _),trivial⟩) (hob:=⟨Ap (fun j hj=>(cq rfl).symm),rfl,Ap (fun j hj=>match j,hj with|0,_=>rfl),trivial⟩))
 ·intro hp' g' hs
  exact⟨rfl,ij [0,1] (fun R g=>xh R p v es p.atoms 3 omg g) (by exact⟨rfl,rfl,trivial⟩) rfl (by exact fun n=>⟨Ap (fun j hj=>(cq rfl).symm),rfl,trivial⟩) ⟨omg,trivial⟩ (by exact fun n=>⟨Af _,Af _,Af _,trivial⟩) rfl (by exact fun n=>Af _) (by exact fun n=>⟨Ap (fun j hj=>cq rfl),rfl,trivial⟩) hp' g' hs⟩
 ·have hset:=kU v 3 p.atoms.toNat
  have hs0:aD v 3 p.atoms.toNat<2^24:=Nat.lt_of_lt_of_le hset (Nat.pow_le_pow_right dcd omg)
  refine(a8 krf (fun (x:Nat × Nat)=>⟨[(1,ref 2 0),(2,ref 3 0),(5,ref 4 0),(6,.int .u64 x.1)],[cO 27 (ah p v (.mp 1)),.map es,cO 1 (fun _=>.ref 0 0),cO 2 (nth [.int .i64 0,.fz .nil 0 0 fun _ _=>.any]),cO 1 (fun _=>.int .u64 x.2)],g⟩) (fun (x:Nat × Nat)=>(x.2<2^24/\(x.2=x.1->gre p v=x.2)/\(x.2≠x.1->∃f,x.2<f/\dT p v f x.2=gre p v))) (fun (x:Nat × Nat)=>(if x.2=x.1 then 0 else x.2+1)) (0,aD v 3 p.atoms.toNat) (toL (h1:=⟨Af _,Af _,Af _,(Ag krf),trivial⟩)) ?_ (fun x hi=>?_))
  ·refine⟨hs0,fun h=>?_,fun _=>⟨2^24+1,by show aD v 3 p.atoms.toNat<_;omega,rfl⟩⟩
   have h:aD v 3 p.atoms.toNat=0:=h
   show gre p v=aD v 3 p.atoms.toNat
   unfold gre
   rw[h]
   exact xg p v _
  ·obtain⟨b,s⟩:=x
   obtain⟨h1,h2,h3⟩:=hi
   simp only at h1 h2 h3
   refine vcR [] (lkL [(6,[1,2,5,40]),(7,[1,2,5,6]),(8,[1,2,5,6,43])]) (lkL [(8,[(1,ROrc.call (fn 105 0 (nth []) 1 (nth [ref (List.length [cO 27 (ah p v (AV.mp 1)),AObj.map es,cO 1 fun (x:Nat)=>ref 0 0,cO 2 (nth [i6 0,fz Fz.nil 0 0 fun (x x_1:Nat)=>any]),cO 1 fun (x:Nat)=>int u64 (↑s:Int)]) 0])) ([cO 27 (ah p v (AV.mp 1)),AObj.map es,cO 1 fun (x:Nat)=>ref 0 0,cO 2 (nth [i6 0,fz Fz.nil 0 0 fun (x x_1:Nat)=>any]),cO 1 fun (x:Nat)=>int u64 (↑s:Int)]++[cO 1 fun (x:Nat)=>int u64 (↑s:Int)]) g)])]) (fun Q=>(fun (u1:List AObj)=>(fun (u2:List AObj)=>(fun (u3:Bool)=>1<=1/\(u3=true->1<=1/\(true=true/\Does Tryd.prog R 77 [int u64 (↑s:Int)] u2 g (ret (fn 105 0 (nth []) 1 (nth [ref 5 0]))) u1 g)/\WpC Tryd.prog R 59 2 96 [1,1,1,1,0,1,0,0,1,0,1,1,0] Q [Kont.blk 2,Kont.blk 1] (St.mk [(1,ref 2 0),(2,ref 3 0),(5,ref 4 0),(6,int u64 (↑s:Int)),(43,fn 105 0 (nth []) 1 (nth [ref 5 0]))] u1 g))/\(u3=false->Q (AEx.exit 0) (St.mk [(1,ref 2 0),(2,ref 3 0),(5,ref 4 0),(40,AV.bool u3)] u2 g))) ((↑s:Int) != (↑b:Int))) ([cO 27 (ah p v (AV.mp 1)),AObj.map es,cO 1 fun x=>ref 0 0,cO 2 (nth [i6 0,fz Fz.nil 0 0 fun x x_1=>any]),cO 1 fun x=>int u64 (↑s:Int)])) ([cO 27 (ah p v (AV.mp 1)),AObj.map es,cO 1 fun x=>ref 0 0,cO 2 (nth [i6 0,fz Fz.nil 0 0 fun x x_1=>any]),cO 1 fun x=>int u64 (↑s:Int),cO 1 fun x=>int u64 (↑s:Int)])) ⟨omg,fun c1=>have c1:¬(↑s:Int)=(↑b:Int):=(bne_iff_ne.mp c1);⟨omg,⟨rfl,(dg _ _ _ _)⟩,?_⟩,fun c1=>have c1:(↑s:Int)=(↑b:Int):=(bne_eq_false_iff_eq.mp c1);?_⟩
   ·have hne:s≠b:=by omega
    have hseq:=m9 s h1
    obtain⟨l,hle⟩:∃l,ak s=l:=⟨_,rfl⟩
    have hcs:bJ p v s=cT p v s l:=by unfold bJ;rw[hle]
    rw[hle] at hseq
    have hin:∀k,k<l.length->l.getD k 0<24:=fun k hk=>by
     have h:=bO l 0 hk
     have h':l.getD k 0∈ak s:=by rw[hle];exact h
     exact(Tb.mem_memN.1 h').1
    refine kG 43 [44] 5 krf rfl rfl rfl hseq (fun _=>rfl) krf (fun _=>⟨trivial,trivial⟩)
     (fun _=>none) (fun _=>rfl)
     (fun k=>[cO 27 (ah p v (.mp 1)),.map es,cO 1 (fun _=>.ref 0 0),cO 2 (nth [.int .i64 0,.fz .nil 0 0 fun _ _=>.any]),cO 1 (fun _=>.int .u64 (cT p v s (l.take k)))])
     (fun _=>g) (ig rfl rfl) (fun _=>rfl) (by exact⟨omg,omg,omg,omg,omg,trivial⟩) (by exact⟨fun j _=>bj _ _ 3 _,trivial,fun _ _=>show 0<5 by omega,fun j hj=>(match j,hj with|0,_=>trivial|1,_=>trivial),fun _ _=>trivial,trivial⟩) (by exact⟨fun _ _=>trivial,trivial⟩) [1,5] (by exact⟨show 2<5 by omega,show 4<5 by omega,trivial⟩) (fun k l' hk hjk=>?_) (fun _=>?_) (fun k hk hj hr=>by cases hr) (fun k id hk hj hr=>by cases hr)
    ·obtain⟨a,ha⟩:∃a,l.getD k 0=a:=⟨_,rfl⟩
     have ha24:a<24:=by rw[<-ha];exact hin k hk
     obtain⟨t,ht⟩:∃t,cT p v s (l.take k)=t:=⟨_,rfl⟩
     have ht24:t<2^24:=by rw[<-ht];exact Nat.lt_of_le_of_lt (ft h1) h1
     have hnx:=xf (p:=p) (v:=v) (s:=s) hk
     rw[ha,ht] at hnx
     rw[ha,ht,hnx]
     refine vcR [] (lkL [(9,[1,2,5,6,7])]) (fun _=>[]) (fun (Q:AEx->St R.σ->Prop)=>Q AEx.normal (St.mk [(1,ref 2 0),(2,any),(5,ref 4 0),(6,any),(7,i6 (↑a:Int))] [cO 27 (ah p v (AV.mp 1)),AObj.map es,cO 1 fun (x:Nat)=>ref 0 0,cO 2 (nth [i6 0,fz Fz.nil 0 0 fun (x x_1:Nat)=>any]),cO 1 fun (x:Nat)=>int u64 (↑t:Int)] g)) (?_)
     show Wp _ _ _ 5 _ _ _ _ _
     refine vcR [] (lkL [(10,[1,2,5,6,7,48]),(11,[1,2,5,6])]) (lkL [(10,[(3,ROrc.kcall (AV.bool (List.any (ofH p.rules.l (↑a:Int)) (bX v t))))]),(11,[(2,ROrc.pcall (int u64 (↑(2^a):Int))),(4,ROrc.val (Orc.obj (nth [int u64 (IntKind.wrap u64 (↑(BitVec.toNat (BitVec.ofInt 64 (↑t:Int) &&& ~~~BitVec.ofInt 64 (↑(2^a):Int))):Int))])))])]) (fun Q=>(fun (u1:List AObj)=>(fun (u2:AV)=>(fun (u3:Bool)=>1<=1/\1<=1/\(true=true/\Does Tryd.prog R 115 [ref 0 0,i6 (↑a:Int),int u64 (↑t:Int)] u1 g (ret (AV.bool u3)) u1 g)/\(u3=true->Flw Tryd.prog/\1<=1/\(∀(hp:List AObj) (g:R.σ),true=true/\Does Tryd.prog R 79 [i6 (↑a:Int)] hp g (ret (int u64 (↑(2^a):Int))) hp g)/\1<=1/\(∀(c:Nat),c<1->nth [u2] c=am (fun (x:Nat)=>int u64 (↑t:Int)) 0 1 (fun (x:Nat)=>u2) c)/\Q AEx.normal (St.mk [(1,ref 2 0),(2,any),(5,ref 4 0),(6,any)] [cO 27 (ah p v (AV.mp 1)),AObj.map es,cO 1 fun x=>ref 0 0,cO 2 (nth [i6 0,fz Fz.nil 0 0 fun x x_1=>any]),cO 1 (nth [u2])] g))/\(u3=false->Q AEx.normal (St.mk [(1,ref 2 0),(2,any),(5,ref 4 0),(6,any),(7,i6 (↑a:Int)),(48,AV.bool u3)] u1 g))) (List.any (ofH p.rules.l (↑a:Int)) (bX v t))) (int u64 (IntKind.wrap u64 (↑(BitVec.toNat (BitVec.ofInt 64 (↑t:Int) &&& ~~~BitVec.ofInt 64 (↑(2^a):Int))):Int)))) ([cO 27 (ah p v (AV.mp 1)),AObj.map es,cO 1 fun x=>ref 0 0,cO 2 (nth [i6 0,fz Fz.nil 0 0 fun x x_1=>any]),cO 1 fun x=>int u64 (↑t:Int)])) ⟨omg,omg,⟨rfl,(doT (T:=LT) [0,1] 5 (fun R _ g=>qV R (p) (v) (es) (t) (a) omg omg omg omg omg g))⟩,fun c1=>⟨krf,omg,(fun _ _=>⟨rfl,(gz _ _ omg _ _)⟩),omg,(fun c hc=>match c,hc with|0,_=>krf ),?_⟩,fun c1=>?_⟩
     ·refine(fJ rfl (toL (h2:=⟨Ah,rfl,Ah,Ah,⟨rfl,Nat.le_refl _,fun j hj=>match j,hj with|0,_=>(Ag ?_) ⟩,trivial⟩)))
      show AV.int .u64 _=AV.int .u64 _
      rw[if_pos c1]
      congr 1
      exact xd ht24 ha24
     ·refine(fJ rfl (toL (h2:=⟨Ah,rfl,Ah,Ah,⟨rfl,Nat.le_refl _,fun j hj=>match j,hj with|0,_=>(Ag ?_) ⟩,trivial⟩)))
      show AV.int .u64 _=AV.int .u64 _
      rw[if_neg (by rw[c1];decide)]
    ·rw[List.take_length,<-hcs]
     have hle':bJ p v s<=s:=by rw[hcs];exact ft h1
     obtain⟨f,f1,f2⟩:=h3 hne
     obtain⟨f,rfl⟩:∃k,f=k+1:=⟨f-1,omg⟩
     have f3:dT p v (f+1) s=if bJ p v s=s then s else dT p v f (bJ p v s):=rfl
     rw[f3] at f2
     refine(aQ (s,bJ p v s) (toS [0,1,2,3,4] 6 (hob:=⟨⟨by first|rfl|(simp;done),by first|exact Nat.le_refl _|(simp;done)|(simp;omega),fun j hj=>(by first|exact bp (by first|exact trivial|apply bj)|exact Ag (cq rfl).symm)⟩,rfl,⟨rfl,Nat.le_refl _,fun j hj=>match j,hj with|0,_=>(Af _) ⟩,⟨rfl,Nat.le_refl _,fun j hj=>match j,hj with|0,_=>(Af _)|1,_=>(Af _) ⟩,⟨rfl,Nat.le_refl _,fun j hj=>match j,hj with|0,_=>(Af _) ⟩,trivial⟩)) ?_ ?_)
     ·refine⟨omg,fun h=>?_,fun h=>⟨f,?_,?_⟩⟩
      ·have h:bJ p v s=s:=h
       rw[if_pos h] at f2
       rw[<-f2];exact h.symm
      ·have h:bJ p v s≠s:=h
       omega
      ·have h:bJ p v s≠s:=h
       rw[if_neg h] at f2
       exact f2
     ·show(if bJ p v s=s then 0 else bJ p v s+1)<if s=b then 0 else s+1
      rw[if_neg hne]
      split <;> omega
   ·have hsb:s=b:=by omega
    subst hsb
    have hg:=h2 rfl
    refine⟨_,Ar _,vcR [] (lkL [(12,[2,3])]) (lkL [(12,[(1,ROrc.callN (fn 105 0 (nth []) 1 (nth [ref (List.length [cO 27 (ah p v (AV.mp 1)),AObj.map es,cO 1 fun (x:Nat)=>ref 0 0,cO 2 (nth [i6 0,fz Fz.nil 0 0 fun (x x_1:Nat)=>any]),cO 1 fun (x:Nat)=>int u64 (↑s:Int)]) 0])) [] [cO 1 fun (x:Nat)=>int u64 (↑s:Int)] g),(2,ROrc.callN (ow true 6 (List.length (ak s)) 1) [(5,cO 1 fun (j:Nat)=>any)] [cO (List.length (ak s)*1) fun (j:Nat)=>i6 (↑(List.getD (ak s) j 0):Int)] g),(6,ROrc.val (Orc.obj (nth [i6 (-1),ow true 6 (List.length (ak s)) 1])))])]) (fun Q=>(fun (u1:AObj)=>(fun (u2:AObj)=>(fun (u3:AObj)=>(fun (u4:List AObj)=>(fun (u5:AObj)=>(fun (u6:AV)=>Flw Tryd.prog/\1<=1/\(true=true/\Does Tryd.prog R 77 [int u64 (↑s:Int)] [u5,AObj.map es,u3,u2,u1] g (ret (fn 105 0 (nth []) 1 (nth [ref 5 0]))) [u5,AObj.map es,u3,u2,u1,u1] g)/\(true=true/\Does Tryd.prog R 75 [fn 105 0 (nth []) 1 (nth [ref 5 0])] [u5,AObj.map es,u3,u2,u1,u1] g (ret u6) (u5::AObj.map es::u3::u2::u4) g)/\1<=1/\2<=2/\(∀(c:Nat),c<2->nth [i6 (-1),u6] c=am (nth [i6 0,fz Fz.nil 0 0 fun x x_1=>any]) 0 2 (List.brecOn (motive:=fun (x:List AV)=>Nat->AV) [i6 (-1),u6] nth._f) c)/\Q AEx.ret (St.mk [(2,ref 3 0),(3,AV.bool ((↑s:Int) != 0))] (u5::AObj.map es::u3::cO 2 (nth [i6 (-1),u6])::u4) g)) (ow true 6 (List.length (ak s)) 1)) (cO 27 (ah p v (AV.mp 1)))) ([u1,cO 1 fun j=>any,cO (List.length (ak s)*1) fun j=>i6 (↑(List.getD (ak s) j 0):Int)])) (cO 1 fun x=>ref 0 0)) (cO 2 (nth [i6 0,fz Fz.nil 0 0 fun x x_1=>any]))) (cO 1 fun x=>int u64 (↑s:Int))) ⟨krf,omg,⟨rfl,(dg _ _ _ _)⟩,⟨rfl,(doT (T:=LT) [5] 6 (fun R _ g=>lf R (s) omg g))⟩,omg,omg,(fun c hc=>match c,hc with|0,_=>krf|1,_=>krf ),?_⟩⟩
    have hnf:¬0<=bi p v:=by unfold bi;omega
    have hn:al p v=⟨-1,aB s⟩:=by unfold al;rw[if_neg hnf,hg]
    have hb:aX p v=(s != 0):=by unfold aX;rw[decide_eq_false hnf,hg];rfl
    rw[hn,hb]
    show bw Tryd.prog R 2 _ _ _ _ .ret _
    refine eL (.tup 2 (nth [.agg 2 (nth [.int .i64 (-1),.ow true 6 (ak s).length 1]),.bool ((s:Int) != 0)])) _ rfl (by exact⟨dcd,trivial⟩) (toS [0,1,6] 7 (hfr:=⟨Aj (fun j hj=>match j,hj with|0,_=>Ak (fun j hj=>match j,hj with|0,_=>Af _|1,_=>Ag ?_)|1,_=>Ag ?_),trivial⟩) (hob:=⟨Ap (fun j hj=>(cq rfl).symm),rfl,⟨rfl,?_,fun j hj=>Ag ?_⟩,trivial⟩))
    ·show AV.ow _ _ _ _=AV.ow _ 6 (aB s).length 1
     rw[eS]
    ·show AV.bool _=AV.bool _
     congr 1
     rw[Bool.eq_iff_iff,bne_iff_ne,bne_iff_ne]
     omega
    ·show(aB s).length*1<=(ak s).length*1
     rw[eS]
     exact Nat.le_refl _
    ·show AV.int .i64 _=AV.int .i64 ((aB s).getD j 0)
     rw[gE]
def eu (s:Stp):Step:=⟨s.rule,s.atoms,.opn⟩
theorem xi (R:Res)(p:Prg)(v:Nat->Int)(es:List (Value × AV))(s:Stp)(hl:p.rules.l.length<1000000)(hr:∀r,r∈p.rules.l->aP r)(h:dS p v (eu s)=true)(g:R.σ):Does Tryd.prog R 141 [.agg 2 (nth [.int .i64 s.rule,.ow true 2 s.atoms.length 1]),.ref 0 0] [cO 27 (ah p v (.mp 1)),.map es,cO (s.atoms.length*1) (ac s.atoms)] g (.ret (.tup 0 (nth []))) [cO 27 (ah p (fQ p v (eu s)) (.mp 1)),.map es,cO (s.atoms.length*1) (ac s.atoms)] g:=by
 unfold dS at h
 simp only[Bool.and_eq_true,beq_iff_eq,decide_eq_true_eq] at h
 obtain⟨hA,hB,hC,hD,hE⟩:=h
 have hA:0<=s.rule/\s.rule<=(p.rules.l.length:Int)-1:=hA
 have hB:s.atoms.length=1:=hB
 have hC:s.atoms.getD 0 0=(p.rules.l.getD s.rule.toNat default).head:=hC
 have hD:v (p.rules.l.getD s.rule.toNat default).head.toNat=3:=hD
 have hE:cF v (p.rules.l.getD s.rule.toNat default)=true:=hE
 have hq:=hr _ (fP (show s.rule.toNat<p.rules.l.length by omega))
 have q1:=hq.1
 have q2:=hq.2
 have ho:∀j,am (ah p v (.mp 1)) ((p.rules.l.getD s.rule.toNat default).head.toNat+2) 1 (fun _=>.int .i64 2) j=ah p (dh v (p.rules.l.getD s.rule.toNat default).head.toNat 2) (.mp 1) j:=fun j=>qW rfl omg (fun _=>.int .i64 2) rfl
 refine spW (nt:=66) (rs:=[]) (k0:=3) ?_
 refine vcR [] (lkL [(0,[1,2]),(1,[1,2]),(2,[1,2,4]),(3,[1,4])]) (lkL [(1,[(10,ROrc.pcall (AV.bool (decide (0<=s.rule/\s.rule<=(p.rules.l.length:Int)-1)))),(18,ROrc.pcall (tup 0 (nth [])))]),(2,[(11,ROrc.val (Orc.obj (nth [i6 (p.rules.l.getD (s.rule.toNat) default).head,ao (p.rules.l.getD (s.rule.toNat) default).body])))]),(3,[(15,ROrc.kop (i6 (v ((p.rules.l.getD (s.rule.toNat) default).head.toNat)))),(23,ROrc.kcall (AV.bool true)),(25,ROrc.pcall (tup 0 (nth [])))])]) (fun Q=>(fun (u1:Rule)=>(fun (u2:List AObj)=>(fun (u3:Int)=>(fun (u4:Bool)=>(fun (u5:Bool)=>(fun (u6:List AObj)=>(fun (u7:Bool)=>(fun (u8:Bool)=>(fun (u9:Option (List Nat))=>(fun (u10:Option (Nat × Bool))=>(fun (u11:Nat)=>u5=true/\1<=2/\2<=27/\(-9223372036854775808<=u3/\u3<=9223372036854775807)/\(∀(hp:List AObj) (g:R.σ),true=true/\Does Tryd.prog R 58 [i6 s.rule,i6 0,i6 u3] hp g (ret (AV.bool u8)) hp g)/\(u8=true->2<=2)/\(∀(hp:List AObj) (g:R.σ),true=true/\Does Tryd.prog R 140 [AV.bool (bif u8 then(u11:Int)==1 else false)] hp g (ret (tup 0 (nth []))) hp g)/\u5=true/\2<=27/\1<=2/\(0<=s.rule/\s.rule<(p.rules.l.length:Int))/\2<=2/\2<=2/\(∀(c:Nat),c<2->nth [i6 u1.head,ao u1.body] c=am (nth [i6 0,fz Fz.nil 0 0 fun x x_1=>any]) 0 2 (List.brecOn (motive:=fun (x:List AV)=>Nat->AV) [i6 u1.head,ao u1.body] nth._f) c)/\u5=true/\2<=2/\((↑0:Int)<=0/\0<(u11:Int))/\1<=u11*1/\1<=2/\(u4=true->1<=2)/\(u4=true->0<=u1.head/\u1.head<(↑24:Int))/\(u4=true->OpOk Tryd.prog R (Oper.mk (some 49) (Op.load 43 (Operand.tmp 48)) 43 "table.go:147" #[Edge.mk 14 Ground.data,Edge.mk 8 Ground.guard] u10) (evO [Row.mk (some 48) u10 (ref 0 (u1.head.toNat+2)) false u9 [],Row.mk (some 47) u10 (ref 0 2) false u9 [],Row.mk (some 46) u10 (ref 0 0) false u9 [],Row.mk (some 45) u10 (i6 u1.head) false u9 [4],Row.mk (some 44) u10 (ref 4 0) false u9 [],Row.mk (some 43) u10 (ref 0 0) false u9 [],Row.mk (some 42) none (AV.bool u4) false u9 [],Row.mk (some 41) none (AV.bool u4) false u9 [],Row.mk (some 40) none (i6 u1.head) false u9 [4],Row.mk (some 39) none (ref 4 0) false u9 [],Row.mk (some 38) none (ac s.atoms 0) false u9 [2],Row.mk (some 37) none (ref 2 0) false u9 [],Row.mk (some 36) none (ow true 2 u11 1) false u9 [3],Row.mk (some 35) none (ref 3 1) false u9 [],Row.mk (some 34) none (ref 3 0) false u9 []] [(1,ref 0 0),(2,ref 3 0),(4,ref 4 0)] [(8,true)]) u6 g (i6 (v (u1.head.toNat))) u6 g)/\(u7=true->2<=2)/\(u7=true->true=true/\Does Tryd.prog R 114 [ref 0 2,bS u1] u6 g (ret (AV.bool true)) u6 g)/\(∀(hp:List AObj) (g:R.σ),true=true/\Does Tryd.prog R 140 [AV.bool (bif u7 then true else false)] hp g (ret (tup 0 (nth []))) hp g)/\u5=true/\1<=2/\(0<=u1.head/\u1.head<(↑24:Int))/\u1.head.toNat+2+1<=27/\Q AEx.normal (St.mk [] (cO 27 (am (ah p v (AV.mp 1)) (u1.head.toNat+2) 1 fun x=>i6 2)::u2) g)) (s.atoms.length)) (some (8,true))) (some [])) (decide (0<=s.rule/\s.rule<=u3))) (bif u4 then v (u1.head.toNat)==3 else false)) (cO 27 (ah p v (AV.mp 1))::u2)) (Tables.follows Tryd.prog.toTables Departure.mixedOrders)) (s.atoms.getD 0 0==u1.head)) ((p.rules.l.length:Int)-1)) ([AObj.map es,cO (s.atoms.length*1) fun a=>ac s.atoms a,cO 2 (nth [i6 s.rule,ow true 2 (s.atoms.length) 1]),cO 2 (nth [i6 u1.head,ao u1.body])])) (p.rules.l.getD (s.rule.toNat) default)) ⟨krf,omg,omg,omg,(fun _ _=>⟨rfl,(d9 _ _ _ _ _ _)⟩),omg,(fun _ _=>⟨rfl,(iq _ _ (by simp at * <;> omega) _ _)⟩),krf,omg,omg,omg,omg,omg,(fun c hc=>match c,hc with|0,_=>krf|1,_=>krf ),krf,omg,omg,omg,omg,omg,omg,?_,omg,(fun hgd=>⟨rfl,(ku hE (doS [0,1] 5 (fun R g=>nc R (p) (v) (es) (p.rules.l.getD (s.rule.toNat) default) omg g)))⟩),(fun _ _=>⟨rfl,(iq _ _ (by simp at * <;> omega) _ _)⟩),krf,omg,omg,omg,?_⟩
 ·intro _
  exact fh rfl rfl krf rfl (by show _+1<=27;omega) (fq omg omg)
 ·refine(aq (cE 3 _ _ rfl trivial omg trivial ⟨(fun _ _=>?_),(fun _ _=>trivial),trivial⟩ ?_ rfl rfl) (Af _))
  ·rw[ho];exact bj _ _ 1 _
  ·show [cO 27 (am (ah p v (.mp 1)) ((p.rules.l.getD s.rule.toNat default).head.toNat+2) 1 (fun _=>.int .i64 2)),AObj.map es,_]=_
   rw[show am (ah p v (.mp 1)) ((p.rules.l.getD s.rule.toNat default).head.toNat+2) 1 (fun _=>.int .i64 2)=ah p (dh v (p.rules.l.getD s.rule.toNat default).head.toNat 2) (.mp 1) from funext ho]
   rfl
theorem xj (R:Res)[Tab LT R](p:Prg)(v:Nat->Int)(es:List (Value × AV))(s:Stp)(hl:p.rules.l.length<1000000)(hr:∀r,r∈p.rules.l->aP r)(hes:HeadsOk es p.rules.l)(hp:1<=p.atoms/\p.atoms<=24)(hsl:s.atoms.length<1000000)(h1':fS p v s.atoms=true)(hns:fT p v (bP s.atoms)=true)(g:R.σ):Does Tryd.prog R 139 [.agg 2 (nth [.int .i64 s.rule,.ow true 2 s.atoms.length 1]),.ref 0 0] [cO 27 (ah p v (.mp 1)),.map es,cO (s.atoms.length*1) (ac s.atoms)] g (.ret (.tup 0 (nth []))) [cO 27 (ah p (cA v (bP s.atoms)) (.mp 1)),.map es,cO (s.atoms.length*1) (ac s.atoms)] g:=by
 unfold fS at h1'
 rw[Bool.and_eq_true] at h1'
 obtain⟨h0,hall⟩:=h1'
 have h0:0<s.atoms.length:=of_decide_eq_true h0
 have hck:∀i,i<s.atoms.length->jr p v s.atoms i=true:=fun i hi=>(List.all_eq_true.1 hall) i (List.mem_range.2 hi)
 have hpos:((s.atoms.length:Nat):Int) > 0:=by omega
 refine spW (nt:=79) (rs:=[]) (k0:=3) ?_
 refine vcR [] (lkL [(0,[2,3]),(1,[2,3]),(2,[2,3,4]),(3,[2,3,4,17,18,19])]) (lkL [(1,[(5,ROrc.pcall (tup 0 (nth [])))])]) (fun Q=>(fun (u1:Nat)=>2<=2/\(∀(hp:List AObj) (g:R.σ),true=true/\Does Tryd.prog R 140 [AV.bool (decide ((↑u1:Int) > 0))] hp g (ret (tup 0 (nth []))) hp g)/\2<=2/\WpC Tryd.prog R 79 3 139 [1,1,1,0,1,0] Q [Kont.blk 0,Kont.seq [1,1,1,1]] (St.mk [(2,ref 3 0),(3,ref 4 0),(4,ref 5 0),(17,ow true 2 u1 1),(18,i6 (↑u1:Int)),(19,i6 0)] [cO 27 (ah p v (AV.mp 1)),AObj.map es,cO (u1*1) fun a=>ac s.atoms a,cO 2 (nth [i6 s.rule,ow true 2 u1 1]),cO 1 fun a=>ref 0 0,cO 1 fun a=>int u64 0] g)) (List.length s.atoms)) ⟨omg,(fun _ _=>⟨rfl,(iq _ _ (by simp at * <;> omega) _ _)⟩),omg,?_⟩
 refine(a8 krf (fun (i:Nat)=>⟨[(2,ref 3 0),(3,ref 4 0),(4,ref 5 0),(17,ow true 2 (s.atoms.length) 1),(18,i6 (s.atoms.length:Int)),(19,.int .i64 i)],[cO 27 (ah p v (.mp 1)),.map es,cO (s.atoms.length*1) (ac s.atoms),cO 2 (nth [.int .i64 s.rule,.ow true 2 s.atoms.length 1]),cO 1 (fun _=>.ref 0 0),cO 1 (fun _=>.int .u64 (bP (s.atoms.take i)))],g⟩) (fun (i:Nat)=>(i<=s.atoms.length/\bP (s.atoms.take i)<2^24)) (fun (i:Nat)=>(s.atoms.length-i)) 0 (toL (h1:=⟨Af _,Af _,Af _,Af _,Af _,(Ag krf),trivial⟩)) ?_ (fun i hi=>?_))
 ·exact⟨Nat.zero_le _,(by decide:(0:Nat)<2^24)⟩
 ·obtain⟨h1,h2⟩:=hi
  rcases Nat.lt_or_ge i s.atoms.length with hlt|hge
  ·have hx:=wI hlt
   have hm:=hck i hlt
   have hm':(bif fR p s.atoms i then v (s.atoms.getD i 0).toNat==3 else false)=true:=hm
   have hA:=wF (wG hm)
   refine vcR [] (lkL [(4,[2,3,4,17,18,19,20]),(5,[2,3,4,5,6,17,18,19]),(6,[2,3,4,6,17,18,19]),(7,[2,3,4,17,18,19]),(8,[2,3,4,17,18,19])]) (lkL [(6,[(7,ROrc.pcall (AV.bool (decide (0<=List.getD s.atoms i 0/\List.getD s.atoms i 0<=p.atoms-1)))),(29,ROrc.kop (i6 (v (Int.toNat (List.getD s.atoms i 0))))),(32,ROrc.pcall (tup 0 (nth [])))]),(7,[(2,ROrc.pcall (int u64 (↑(2^Int.toNat (List.getD s.atoms i 0)):Int))),(4,ROrc.val (Orc.obj (nth [int u64 (IntKind.wrap u64 (↑(BitVec.toNat (BitVec.ofInt 64 (↑(bP (List.take i s.atoms)):Int)|||BitVec.ofInt 64 (↑(2^Int.toNat (List.getD s.atoms i 0)):Int))):Int))])))])]) (fun Q=>(fun (u1:Int)=>(fun (u2:Bool)=>(fun (u3:List AObj)=>(fun (u4:Int)=>(fun (u5:AV)=>(fun (u6:Nat)=>(fun (u7:Bool)=>(fun (u8:Option (List Nat))=>(fun (u9:Int)=>(fun (u10:Int)=>(fun (u11:Option (Nat × Bool))=>(fun (u12:AV)=>(decide (u4<u10)=true->(0<=u4/\u4<u10)/\i+1<=u6*1/\1<=1/\1<=27/\(-9223372036854775808<=p.atoms-1/\p.atoms-1<=9223372036854775807)/\(∀(hp:List AObj) (g:R.σ),true=true/\Does Tryd.prog R 58 [u12,i6 0,i6 (p.atoms-1)] hp g (ret (AV.bool u7)) hp g)/\((u7 && !u4==0)=true->2<=2)/\((u7 && !u4==0)=true -> -9223372036854775808<=u4-1/\u4-1<=9223372036854775807)/\((u7 && !u4==0)=true->0<=u4-1/\u4-1<u10)/\((u7 && !u4==0)=true->Int.toNat (u4-1)+1<=u6*1)/\(u2=true->1<=1)/\(u2=true->0<=u1/\u1<(↑24:Int))/\(u2=true->OpOk Tryd.prog R (Oper.mk (some 53) (Op.load 43 (Operand.tmp 52)) 43 "table.go:155" #[Edge.mk 28 Ground.data,Edge.mk 23 Ground.guard] (some (23,true))) (evO [Row.mk (some 52) (some (23,true)) (ref 0 (Int.toNat u1+2)) false u8 [],Row.mk (some 51) (some (23,true)) (ref 0 2) false u8 [],Row.mk (some 50) (some (23,true)) (ref 0 0) false u8 [],Row.mk (some 49) (some (23,true)) u12 false u8 [],Row.mk (some 48) (some (23,true)) (ref 0 0) false u8 [4],Row.mk (some 47) none (AV.bool u2) false u8 [],Row.mk (some 46) none (AV.bool u2) false u8 [],Row.mk (some 45) (some (8,true)) (AV.bool (bif u4==0 then true else decide (u1 > u9))) false u8 [],Row.mk (some 44) u11 (AV.bool (decide (u1 > u9))) false u8 [],Row.mk (some 43) u11 (ac s.atoms (Int.toNat (u4-1))) false u8 [2],Row.mk (some 42) u11 (ref 2 (Int.toNat (u4-1))) false u8 [],Row.mk (some 41) u11 (i6 (u4-1)) false u8 [],Row.mk (some 40) u11 (i6 u4) false u8 [],Row.mk (some 39) u11 (ow true 2 u6 1) false u8 [3],Row.mk (some 38) u11 (ref 3 1) false u8 [],Row.mk (some 37) u11 (ref 3 0) false u8 [],Row.mk (some 36) u11 u12 false u8 [],Row.mk (some 35) (some (8,true)) (AV.bool (u4==0)) false u8 [],Row.mk (some 34) (some (8,true)) (AV.bool (u4==0)) false u8 [],Row.mk (some 33) (some (8,true)) (i6 u4) false u8 [],Row.mk (some 32) none (AV.bool u7) false u8 [],Row.mk (some 31) none (AV.bool u7) false u8 [],Row.mk (some 30) none (i6 (p.atoms-1)) false u8 [],Row.mk (some 29) none (i6 p.atoms) false u8 [0],Row.mk (some 28) none (ref 0 0) false u8 [],Row.mk (some 27) none (ref 0 0) false u8 [],Row.mk (some 26) none (ref 0 0) false u8 [],Row.mk (some 25) none (ref 0 0) false u8 [4],Row.mk (some 24) none u12 false u8 []] [(2,ref 3 0),(3,ref 4 0),(4,ref 5 0),(5,i6 u4),(6,u12),(17,ow true 2 u6 1),(18,i6 u10),(19,i6 u4)] [(23,true)]) u3 g (i6 (v (Int.toNat u1))) u3 g)/\(∀(hp:List AObj) (g:R.σ),true=true/\Does Tryd.prog R 140 [AV.bool (bif u2 then v (Int.toNat u1)==3 else false)] hp g (ret (tup 0 (nth []))) hp g)/\Flw Tryd.prog/\1<=1/\(∀(hp:List AObj) (g:R.σ),true=true/\Does Tryd.prog R 79 [u12] hp g (ret (int u64 (↑(2^Int.toNat u1):Int))) hp g)/\1<=1/\(∀(c:Nat),c<1->nth [u5] c=am (fun (x:Nat)=>int u64 (↑(bP (List.take i s.atoms)):Int)) 0 1 (fun (x:Nat)=>u5) c)/\(-9223372036854775808<=u4+1/\u4+1<=9223372036854775807)/\Q AEx.normal (St.mk [(2,ref 3 0),(3,ref 4 0),(4,ref 5 0),(17,ow true 2 u6 1),(18,i6 u10),(19,i6 (u4+1))] [cO 27 (ah p v (AV.mp 1)),AObj.map es,cO (u6*1) fun a=>ac s.atoms a,cO 2 (nth [i6 s.rule,ow true 2 u6 1]),cO 1 fun x=>ref 0 0,cO 1 (nth [u5])] g))/\(decide (u4<u10)=false->Q (AEx.exit 0) (St.mk [(2,ref 3 0),(3,ref 4 0),(4,ref 5 0),(17,ow true 2 u6 1),(18,i6 u10),(19,i6 u4),(20,AV.bool (decide (u4<u10)))] u3 g))) (ac s.atoms i)) (some (11,false))) ((↑u6:Int))) (List.getD s.atoms (Int.toNat (u4-1)) 0)) (some [])) (decide (0<=u1/\u1<=p.atoms-1))) (List.length s.atoms)) (int u64 (IntKind.wrap u64 (↑(BitVec.toNat (BitVec.ofInt 64 (↑(bP (List.take i s.atoms)):Int)|||BitVec.ofInt 64 (↑(2^Int.toNat u1):Int))):Int)))) ((↑i:Int))) ([cO 27 (ah p v (AV.mp 1)),AObj.map es,cO (List.length s.atoms*1) fun a=>ac s.atoms a,cO 2 (nth [i6 s.rule,ow true 2 (List.length s.atoms) 1]),cO 1 fun x=>ref 0 0,cO 1 fun x=>int u64 (↑(bP (List.take i s.atoms)):Int)])) (bif decide (0<=u1/\u1<=p.atoms-1) then bif (↑i:Int)==0 then true else decide (u1 > List.getD s.atoms (Int.toNat ((↑i:Int)-1)) 0) else false)) (List.getD s.atoms i 0)) ⟨fun c1=>have c1:(↑i:Int)<(↑(List.length s.atoms):Int):=(of_decide_eq_true c1);⟨omg,omg,omg,omg,omg,(fun _ _=>⟨rfl,(d9 _ _ _ _ _ _)⟩),omg,omg,(by intro h;simp at h <;> omega),omg,omg,omg,?_,(fun _ _=>⟨rfl,(iq _ _ (by assumption) _ _)⟩),krf,omg,(fun _ _=>⟨rfl,(et _ _ omg _ _)⟩),omg,(fun c hc=>match c,hc with|0,_=>krf ),omg,?_⟩,fun c1=>have c1:¬(↑i:Int)<(↑(List.length s.atoms):Int):=(of_decide_eq_false c1);?_⟩
   ·intro _
    exact fh rfl rfl krf rfl (by show _+1<=27;omega) (fq omg omg)
   ·refine(aQ (i+1) (toL (h1:=⟨Af _,Af _,Af _,Af _,Af _,(Ag krf),trivial⟩) (h2:=⟨Ah,rfl,Ah,Ah,Ah,⟨rfl,Nat.le_refl _,fun j hj=>match j,hj with|0,_=>(Ag ?_) ⟩,trivial⟩)) ?_ ?_)
    ·show AV.int .u64 _=AV.int .u64 _
     congr 1
     rw[hx]
     exact Tb.u64_or (bT h2) (bT (Nat.pow_lt_pow_right dcd omg))
    ·refine⟨omg,?_⟩
     rw[hx]
     exact Nat.or_lt_two_pow h2 (Nat.pow_lt_pow_right dcd omg)
    ·omega
   all_goals (exfalso;omega)
  ·have hi':i=s.atoms.length:=by omega
   subst hi'
   rw[List.take_length] at h2 ⊢
   obtain⟨S,hS⟩:∃S,bP s.atoms=S:=⟨_,rfl⟩
   rw[hS] at h2 hns ⊢
   have hseq:=m9 S h2
   obtain⟨l,hle⟩:∃l,ak S=l:=⟨_,rfl⟩
   rw[hle] at hseq
   have hb:decide ((s.atoms.length:Int)<(s.atoms.length:Int))=false:=decide_eq_false omg
   refine vcR [[1,1,1,0,1,0,0,1,0,0]] (lkL [(4,[2,3,4,17,18,19,20])]) (fun _=>[]) (fun Q=>(fun (u1:Int)=>(fun (u2:St R.σ)=>(decide (u1<u1)=true->WpC Tryd.prog R 79 3 139 [1,1,1,0,1,0,0,1,0,0] Q [Kont.seq [1,1,1,0,1,0,0,1,1]] u2)/\(decide (u1<u1)=false->Q (AEx.exit 0) u2)) (St.mk [(2,ref 3 0),(3,ref 4 0),(4,ref 5 0),(17,ow true 2 (List.length s.atoms) 1),(18,i6 u1),(19,i6 u1),(20,AV.bool (decide (u1<u1)))] [cO 27 (ah p v (AV.mp 1)),AObj.map es,cO (List.length s.atoms*1) fun a=>ac s.atoms a,cO 2 (nth [i6 s.rule,ow true 2 (List.length s.atoms) 1]),cO 1 fun x=>ref 0 0,cO 1 fun x=>int u64 (↑S:Int)] g)) ((↑(List.length s.atoms):Int))) ⟨fun hcc=>(nomatch (hb.symm.trans hcc)),fun _=>?_⟩
   refine⟨_,Ar _,vcR [] (lkL [(9,[3,4,63])]) (lkL [(9,[(1,ROrc.call (fn 105 0 (nth []) 1 (nth [ref (List.length [cO 27 (ah p v (AV.mp 1)),AObj.map es,cO (List.length s.atoms*1) fun (a:Nat)=>ac s.atoms a,cO 2 (nth [i6 s.rule,ow true 2 (List.length s.atoms) 1]),cO 1 fun (x:Nat)=>ref 0 0,cO 1 fun (x:Nat)=>int u64 (↑S:Int)]) 0])) ([cO 27 (ah p v (AV.mp 1)),AObj.map es,cO (List.length s.atoms*1) fun (a:Nat)=>ac s.atoms a,cO 2 (nth [i6 s.rule,ow true 2 (List.length s.atoms) 1]),cO 1 fun (x:Nat)=>ref 0 0,cO 1 fun (x:Nat)=>int u64 (↑S:Int)]++[cO 1 fun (x:Nat)=>int u64 (↑S:Int)]) g)])]) (fun Q=>(fun (u1:List AObj)=>1<=1/\(true=true/\Does Tryd.prog R 77 [int u64 (↑S:Int)] [cO 27 (ah p v (AV.mp 1)),AObj.map es,cO (List.length s.atoms*1) fun a=>ac s.atoms a,cO 2 (nth [i6 s.rule,ow true 2 (List.length s.atoms) 1]),cO 1 fun x=>ref 0 0,cO 1 fun x=>int u64 (↑S:Int)] g (ret (fn 105 0 (nth []) 1 (nth [ref 6 0]))) u1 g)/\WpC Tryd.prog R 79 3 139 [1,1,1,1,0,1,0] Q [Kont.blk 2,Kont.seq [1,1,1,1,1]] (St.mk [(3,ref 4 0),(4,ref 5 0),(63,fn 105 0 (nth []) 1 (nth [ref 6 0]))] u1 g)) ([cO 27 (ah p v (AV.mp 1)),AObj.map es,cO (List.length s.atoms*1) fun a=>ac s.atoms a,cO 2 (nth [i6 s.rule,ow true 2 (List.length s.atoms) 1]),cO 1 fun x=>ref 0 0,cO 1 fun x=>int u64 (↑S:Int),cO 1 fun x=>int u64 (↑S:Int)])) ⟨omg,⟨rfl,(dg _ _ _ _)⟩,?_⟩⟩
   have hin:∀k,k<l.length->l.getD k 0<24:=fun k hk=>by
    have h:=bO l 0 hk
    have h':l.getD k 0∈ak S:=by rw[hle];exact h
    exact(Tb.mem_memN.1 h').1
   have hns':∀k,k<l.length->(ofH p.rules.l (l.getD k 0)).any (bX v S)=false:=fun k hk=>by
    unfold fT at hns
    rw[hle,Bool.not_eq_true'] at hns
    have:=List.any_eq_false.1 hns _ (bO l 0 hk)
    cases h:(ofH p.rules.l (l.getD k 0)).any (bX v S) with
    |false=>rfl
    |true=>exact absurd h this
   refine kG 63 [64] 6 krf rfl rfl rfl hseq (fun _=>rfl) krf (fun _=>⟨trivial,trivial⟩)
    (fun _=>none) (fun _=>rfl)
    (fun _=>[cO 27 (ah p v (.mp 1)),.map es,cO (s.atoms.length*1) (ac s.atoms),cO 2 (nth [.int .i64 s.rule,.ow true 2 s.atoms.length 1]),cO 1 (fun _=>.ref 0 0),cO 1 (fun _=>.int .u64 S)])
    (fun _=>g) (ig rfl rfl) (fun _=>rfl) (by exact⟨omg,omg,omg,omg,omg,omg,trivial⟩) (by exact⟨fun j _=>bj _ _ 4 _,trivial,fun _ _=>trivial,fun j hj=>(match j,hj with|0,_=>trivial|1,_=>(show 2<6 by omega)),fun _ _=>show 0<6 by omega,fun _ _=>trivial,trivial⟩) (by exact⟨fun _ _=>trivial,trivial⟩) [3,4] (by exact⟨show 4<6 by omega,show 5<6 by omega,trivial⟩) (fun k l' hk hjk=>?_) (fun _=>?_) (fun k hk hj hr=>by cases hr) (fun k id hk hj hr=>by cases hr)
   ·refine vcR [] (lkL [(10,[3,4,7])]) (fun _=>[]) (fun (Q:AEx->St R.σ->Prop)=>Q AEx.normal (St.mk [(3,ref 4 0),(4,ref 5 0),(7,i6 (↑(List.getD l k 0):Int))] [cO 27 (ah p v (AV.mp 1)),AObj.map es,cO (List.length s.atoms*1) fun (a:Nat)=>ac s.atoms a,cO 2 (nth [i6 s.rule,ow true 2 (List.length s.atoms) 1]),cO 1 fun (x:Nat)=>ref 0 0,cO 1 fun (x:Nat)=>int u64 (↑S:Int)] g)) (?_)
    show Wp _ _ _ 6 _ _ _ _ _
    obtain⟨a,ha⟩:∃a,l.getD k 0=a:=⟨_,rfl⟩
    have ha24:a<24:=by rw[<-ha];exact hin k hk
    have hm:(!(ofH p.rules.l a).any (bX v S))=true:=by rw[<-ha,hns' k hk];rfl
    rw[ha]
    refine vcR [] (lkL [(11,[3,4])]) (lkL [(11,[(3,ROrc.kcall (AV.bool (List.any (ofH p.rules.l (↑a:Int)) (bX v S)))),(5,ROrc.pcall (tup 0 (nth [])))])]) (fun Q=>(fun (u1:List AObj)=>1<=1/\1<=1/\(true=true/\Does Tryd.prog R 115 [ref 0 0,i6 (↑a:Int),int u64 (↑S:Int)] u1 g (ret (AV.bool (List.any (ofH p.rules.l (↑a:Int)) (bX v S)))) u1 g)/\(∀(hp:List AObj) (g:R.σ),true=true/\Does Tryd.prog R 140 [AV.bool !List.any (ofH p.rules.l (↑a:Int)) (bX v S)] hp g (ret (tup 0 (nth []))) hp g)/\Q AEx.normal (St.mk [(3,ref 4 0),(4,ref 5 0)] u1 g)) ([cO 27 (ah p v (AV.mp 1)),AObj.map es,cO (List.length s.atoms*1) fun a=>ac s.atoms a,cO 2 (nth [i6 s.rule,ow true 2 (List.length s.atoms) 1]),cO 1 fun x=>ref 0 0,cO 1 fun x=>int u64 (↑S:Int)])) ⟨omg,omg,⟨rfl,(doT (T:=LT) [0,1] 6 (fun R _ g=>qV R (p) (v) (es) (S) (a) omg omg omg omg omg g))⟩,(fun _ _=>⟨rfl,(iq _ _ omg _ _)⟩),?_⟩
    refine(fJ rfl (aO trivial rfl rfl))
   ·show Wp _ _ _ 3 _ _ _ _ _
    refine b8 (hP 6 omg [3,4] (by exact⟨show 4<6 by omega,show 5<6 by omega,fun j _=>bj _ _ 4 _,fun _ _=>trivial,fun j hj=>(match j,hj with|0,_=>trivial|1,_=>(show 2<6 by omega)),fun _ _=>show 0<6 by omega,fun _ _=>trivial,trivial⟩)) ?_
    refine vcR [] (lkL [(12,[3,72])]) (lkL [(12,[(1,ROrc.call (fn 105 0 (nth []) 1 (nth [ref (List.length [cO 27 (ah p v (AV.mp 1)),AObj.map es,cO (List.length s.atoms*1) fun (a:Nat)=>ac s.atoms a,cO 2 (nth [i6 s.rule,ow true 2 (List.length s.atoms) 1]),cO 1 fun (x:Nat)=>ref 0 0,cO 1 fun (x:Nat)=>int u64 (↑S:Int)]) 0])) ([cO 27 (ah p v (AV.mp 1)),AObj.map es,cO (List.length s.atoms*1) fun (a:Nat)=>ac s.atoms a,cO 2 (nth [i6 s.rule,ow true 2 (List.length s.atoms) 1]),cO 1 fun (x:Nat)=>ref 0 0,cO 1 fun (x:Nat)=>int u64 (↑S:Int)]++[cO 1 fun (x:Nat)=>int u64 (↑S:Int)]) g)])]) (fun Q=>(fun (u1:List AObj)=>1<=1/\(true=true/\Does Tryd.prog R 77 [int u64 (↑S:Int)] [cO 27 (ah p v (AV.mp 1)),AObj.map es,cO (List.length s.atoms*1) fun a=>ac s.atoms a,cO 2 (nth [i6 s.rule,ow true 2 (List.length s.atoms) 1]),cO 1 fun x=>ref 0 0,cO 1 fun x=>int u64 (↑S:Int)] g (ret (fn 105 0 (nth []) 1 (nth [ref 6 0]))) u1 g)/\WpC Tryd.prog R 79 3 139 [1,1,1,1,1,1,0] Q [Kont.blk 4] (St.mk [(3,ref 4 0),(72,fn 105 0 (nth []) 1 (nth [ref 6 0]))] u1 g)) ([cO 27 (ah p v (AV.mp 1)),AObj.map es,cO (List.length s.atoms*1) fun a=>ac s.atoms a,cO 2 (nth [i6 s.rule,ow true 2 (List.length s.atoms) 1]),cO 1 fun x=>ref 0 0,cO 1 fun x=>int u64 (↑S:Int),cO 1 fun x=>int u64 (↑S:Int)])) ⟨omg,⟨rfl,(dg _ _ _ _)⟩,?_⟩
    refine kG 72 [73] 6 krf rfl rfl rfl hseq (fun _=>rfl) krf (fun _=>⟨trivial,trivial⟩)
     (fun _=>none) (fun _=>rfl)
     (fun k=>[cO 27 (ah p (fun b=>if b∈l.take k then 1 else v b) (.mp 1)),.map es,cO (s.atoms.length*1) (ac s.atoms),cO 2 (nth [.int .i64 s.rule,.ow true 2 s.atoms.length 1]),cO 1 (fun _=>.ref 0 0),cO 1 (fun _=>.int .u64 S)])
     (fun _=>g) (ig rfl rfl) (fun _=>rfl) (by exact⟨omg,omg,omg,omg,omg,omg,trivial⟩) (by exact⟨fun j _=>bj _ _ 4 _,trivial,fun _ _=>trivial,fun j hj=>(match j,hj with|0,_=>trivial|1,_=>(show 2<6 by omega)),fun _ _=>show 0<6 by omega,fun _ _=>trivial,trivial⟩) (by exact⟨fun _ _=>trivial,trivial⟩) [3] (by exact⟨show 4<6 by omega,trivial⟩) (fun k l' hk hjk=>?_) (fun _=>?_) (fun k hk hj hr=>by cases hr) (fun k id hk hj hr=>by cases hr)
    ·refine vcR [] (lkL [(13,[3,8])]) (fun _=>[]) (fun (Q:AEx->St R.σ->Prop)=>Q AEx.normal (St.mk [(3,ref 4 0),(8,i6 (↑(List.getD l k 0):Int))] [cO 27 (ah p (fun (b:Nat)=>if b∈List.take k l then 1 else v b) (AV.mp 1)),AObj.map es,cO (List.length s.atoms*1) fun (a:Nat)=>ac s.atoms a,cO 2 (nth [i6 s.rule,ow true 2 (List.length s.atoms) 1]),cO 1 fun (x:Nat)=>ref 0 0,cO 1 fun (x:Nat)=>int u64 (↑S:Int)] g)) (?_)
     show Wp _ _ _ 6 _ _ _ _ _
     obtain⟨a,ha⟩:∃a,l.getD k 0=a:=⟨_,rfl⟩
     have ha24:a<24:=by rw[<-ha];exact hin k hk
     rw[ha]
     have ho:am (ah p (fun b=>if b∈l.take k then 1 else v b) (.mp 1)) (a+2) 1 (fun _=>.int .i64 1)=ah p (fun b=>if b∈l.take (k+1) then 1 else v b) (.mp 1):=by
      funext j
      rw[qW rfl ha24 (fun _=>.int .i64 1) rfl]
      congr 1
      funext b
      unfold dh
      have e:l[k]=a:=by rw[<-ha,List.getD_eq_getElem?_getD,List.getElem?_eq_getElem hk];rfl
      have hmem:b∈l.take (k+1)↔b∈l.take k∨b=a:=by
       rw[List.take_add_one,List.mem_append,List.getElem?_eq_getElem hk,e]
       simp
      by_cases h1:b=a
      ·rw[if_pos h1,if_pos (hmem.2 (.inr h1))]
      ·rw[if_neg h1]
       by_cases h2:b∈l.take k
       ·exact(if_pos h2).trans (if_pos (hmem.2 (.inl h2))).symm
       ·exact(if_neg h2).trans (if_neg (fun h=>(hmem.1 h).elim h2 h1)).symm
     refine vcR [] (lkL []) (fun _=>[]) (fun Q=>1<=1/\(0<=(↑a:Int)/\(↑a:Int)<(↑24:Int))/\a+2+1<=27/\Q AEx.normal (St.mk [] [cO 27 (am (ah p (fun (b:Nat)=>if b∈List.take k l then 1 else v b) (AV.mp 1)) (a+2) 1 fun x=>i6 1),AObj.map es,cO (List.length s.atoms*1) fun a=>ac s.atoms a,cO 2 (nth [i6 s.rule,ow true 2 (List.length s.atoms) 1]),cO 1 fun x=>ref 0 0,cO 1 fun x=>int u64 (↑S:Int)] g)) ⟨omg,omg,omg,?_⟩
     refine(fJ rfl (toL (h2:=⟨(Ap (fun j hj=>?_)),rfl,Ah,Ah,Ah,Ah,trivial⟩)))
     rw[ho]
    ·have he:(fun b=>if b∈l.take l.length then(1:Int) else v b)=cA v S:=by
      funext b
      unfold cA
      rw[List.take_length,<-hle]
      by_cases hb:S.testBit b=true
      ·rw[if_pos hb,if_pos (Tb.mem_memN.2 ⟨gD h2 hb,hb⟩)]
      ·rw[if_neg hb,if_neg (fun h=>hb (Tb.mem_memN.1 h).2)]
     rw[he]
     refine(aq (cE 3 _ _ rfl trivial omg trivial ⟨(fun _ _=>(by first|exact trivial|apply bj)),(fun _ _=>trivial),trivial⟩ krf rfl rfl) (Af _))
theorem rb {p:Prg}{v:Nat->Int}:∀{l:List Nat} {s:Nat},s<2^24->(∀a,a∈l->a<24/\s.testBit a=true)->cT p v s l=s->∀a,a∈l->(ofH p.rules.l (a:Int)).any (bX v s)=false
 |[],_,_,_,_,_,h=>by cases h
 |a::l,s,hs,hl,he,b,hb=>by
  have he:cT p v (if (ofH p.rules.l (a:Int)).any (bX v s) then clr s a else s) l=s:=he
  cases hg:(ofH p.rules.l (a:Int)).any (bX v s) with
  |true=>
   exfalso
   rw[if_pos hg] at he
   have h1:=ir (a:=a) hs
   have h2:=ft (p:=p) (v:=v) (l:=l) (Nat.lt_of_le_of_lt h1 hs)
   have h3:clr s a=s:=by omega
   have h4:=nr hs (hl a List.mem_cons_self).1 a
   rw[h3,(hl a List.mem_cons_self).2] at h4
   simp at h4
  |false=>
   rw[if_neg (by rw[hg];decide)] at he
   rcases List.mem_cons.1 hb with rfl|hb
   ·exact hg
   ·exact rb hs (fun a ha=>hl a (List.mem_cons_of_mem _ ha)) he b hb
theorem rc {p:Prg}{v:Nat->Int}:∀{n s:Nat},s<2^24->s<n->bJ p v (dT p v n s)=dT p v n s/\dT p v n s<=s
 |0,s,_,h=>by omega
 |n+1,s,hs,h=>by
  show bJ p v (if bJ p v s=s then s else _)=(if bJ p v s=s then s else _)/\(if bJ p v s=s then s else _)<=s
  have hle:bJ p v s<=s:=ft hs
  by_cases he:bJ p v s=s
  ·rw[if_pos he];exact⟨he,Nat.le_refl _⟩
  ·rw[if_neg he]
   have ih:=rc (p:=p) (v:=v) (n:=n) (s:=bJ p v s) omg omg
   exact⟨ih.1,Nat.le_trans ih.2 hle⟩
def ef (s t:Nat):Prop:=∀j,s.testBit j=true->t.testBit j=true
theorem xk {s a:Nat}(hs:s<2^24)(ha:a<24):ef (clr s a) s:=fun j h=>by
 rw[nr hs ha,Bool.and_eq_true] at h
 exact h.1
theorem nu {p:Prg}{v:Nat->Int}:∀{l:List Nat} {s:Nat},s<2^24->(∀a,a∈l->a<24)->ef (cT p v s l) s
 |[],_,_,_=>fun _ h=>h
 |a::l,s,hs,hl=>by
  show ef (cT p v (if (ofH p.rules.l (a:Int)).any (bX v s) then clr s a else s) l) s
  split
  ·exact fun j h=>xk hs (hl a List.mem_cons_self) j (nu (Nat.lt_of_le_of_lt (ir hs) hs) (fun b hb=>hl b (List.mem_cons_of_mem _ hb)) j h)
  ·exact nu hs (fun b hb=>hl b (List.mem_cons_of_mem _ hb))
theorem jt {s a:Nat}(h:a∈ak s):a<24:=(Tb.mem_memN.1 h).1
theorem rd {p:Prg}{v:Nat->Int}:∀{n s:Nat},s<2^24->ef (dT p v n s) s
 |0,_,_=>fun _ h=>h
 |n+1,s,hs=>by
  show ef (if bJ p v s=s then s else dT p v n (bJ p v s)) s
  split
  ·exact fun _ h=>h
  ·exact fun j h=>nu hs (fun a ha=>jt ha) j (rd (Nat.lt_of_le_of_lt (ft hs) hs) j h)
theorem ew (v:Nat->Int)(x:Int)(n j:Nat):(aD v x n).testBit j=(decide (j<n)&&decide (v j=x)):=by
 induction n with
 |zero=>simp[aD]
 |succ n ih=>
  rw[ip]
  by_cases h:v n=x
  ·rw[if_pos h,Nat.testBit_or,ih,Nat.testBit_two_pow,Bool.eq_iff_iff]
   simp only[Bool.or_eq_true,Bool.and_eq_true,decide_eq_true_eq]
   constructor
   ·rintro (⟨h1,h2⟩|h1)
    ·exact⟨omg,h2⟩
    ·subst h1;exact⟨omg,h⟩
   ·rintro ⟨h1,h2⟩
    rcases Nat.lt_or_ge j n with h3|h3
    ·exact .inl ⟨h3,h2⟩
    ·exact .inr omg
  ·rw[if_neg h,ih,Bool.eq_iff_iff]
   simp only[Bool.and_eq_true,decide_eq_true_eq]
   constructor
   ·rintro ⟨h1,h2⟩;exact⟨omg,h2⟩
   ·rintro ⟨h1,h2⟩
    refine⟨?_,h2⟩
    rcases Nat.lt_or_ge j n with h3|h3
    ·exact h3
    ·exact absurd (by rw[show n=j by omega];exact h2) h
theorem gF {v:Nat->Int}{x:Int}{n:Nat}(h:n<=24):aD v x n<2^24:=Nat.lt_of_lt_of_le (kU v x n) (Nat.pow_le_pow_right dcd h)
def cj (p:Prg):Prop:=1<=p.atoms/\p.atoms<=24
theorem iu {p:Prg}(v:Nat->Int)(hp:cj p):bJ p v (gre p v)=gre p v/\ef (gre p v) (aD v 3 p.atoms.toNat)/\gre p v<2^24:=by
 have hp:=hp.2
 have hs:aD v 3 p.atoms.toNat<2^24:=gF omg
 have h:=rc (p:=p) (v:=v) (n:=2^24+1) hs omg
 exact⟨h.1,rd hs,Nat.lt_of_le_of_lt h.2 hs⟩
theorem re {p:Prg}(v:Nat->Int)(hp:cj p):fT p v (gre p v)=true:=by
 obtain⟨h1,h2,h3⟩:=iu v hp
 unfold fT
 rw[Bool.not_eq_true',List.any_eq_false]
 intro a ha
 have:=rb h3 (fun a ha=>Tb.mem_memN.1 ha) h1 a ha
 rw[this]
 decide
theorem xm (l:List Int)(j:Nat):(bP l).testBit j=l.any (fun a=>a.toNat==j):=by
 have key:∀(l:List Int) (s:Nat),(l.foldl (fun s a=>s|||2^a.toNat) s).testBit j=(s.testBit j||l.any (fun a=>a.toNat==j)):=by
  intro l
  induction l with
  |nil=>intro s;simp
  |cons a l ih=>
   intro s
   rw[List.foldl_cons,ih,Nat.testBit_or,Nat.testBit_two_pow,List.any_cons,Bool.or_assoc]
   rfl
 unfold bP
 rw[key]
 simp
theorem nv {s:Nat}{a:Int}:a∈aB s↔0<=a/\a<24/\s.testBit a.toNat=true:=by
 unfold aB
 rw[List.mem_map]
 constructor
 ·rintro ⟨n,hn,rfl⟩
  have:=Tb.mem_memN.1 hn
  exact⟨omg,omg,by simpa using this.2⟩
 ·rintro ⟨h1,h2,h3⟩
  exact⟨a.toNat,Tb.mem_memN.2 ⟨omg,h3⟩,omg⟩
theorem ny {s:Nat}(hs:s<2^24):bP (aB s)=s:=by
 refine Nat.eq_of_testBit_eq fun j=>?_
 rw[xm,Bool.eq_iff_iff,List.any_eq_true]
 constructor
 ·rintro ⟨a,ha,hj⟩
  have:=nv.1 ha
  rw[beq_iff_eq] at hj
  rw[<-hj]
  exact this.2.2
 ·intro h
  have hj:=gD hs h
  exact⟨(j:Int),nv.2 ⟨omg,omg,by simpa using h⟩,by simp⟩
theorem rf {s i j:Nat}(hij:i<j)(hj:j<(ak s).length):(ak s).getD i 0<(ak s).getD j 0:=by
 have hp:(ak s).Pairwise (·<·):=(List.pairwise_lt_range (n:=24)).sublist List.filter_sublist
 rw[List.pairwise_iff_getElem] at hp
 have:=hp i j omg hj hij
 rw[List.getD_eq_getElem?_getD,List.getD_eq_getElem?_getD,List.getElem?_eq_getElem hj,List.getElem?_eq_getElem (by omega:i<(ak s).length)]
 exact this
theorem xn {p:Prg}{v:Nat->Int}{s:Nat}(hp:cj p)(h0:s≠0)(hs:s<2^24)(h:ef s (aD v 3 p.atoms.toNat)):fS p v (aB s)=true:=by
 unfold fS
 rw[Bool.and_eq_true,List.all_eq_true]
 constructor
 ·rw[decide_eq_true_eq,eS]
  rcases Nat.eq_zero_or_pos (ak s).length with h|h
  ·exact absurd (Tb.zero_of_mem hs (List.length_eq_zero_iff.1 h)) h0
  ·exact h
 ·intro i hi
  have hi:=List.mem_range.1 hi
  rw[eS] at hi
  have hm:=Tb.mem_memN.1 (show(ak s).getD i 0∈ak s from bO _ 0 hi)
  have hb:=h _ hm.2
  rw[ew,Bool.and_eq_true,decide_eq_true_eq,decide_eq_true_eq] at hb
  have hpos:fR p (aB s) i=true:=by
   unfold fR
   rw[gE]
   rw[decide_eq_true omg]
   show(bif (i:Int)==0 then true else _)=true
   cases hz:((i:Int)==0) with
   |true=>rfl
   |false=>
    have hz:(i:Int)≠0:=by simpa using hz
    show decide _=true
    rw[decide_eq_true_eq,gE]
    have:=rf (s:=s) (i:=i-1) (j:=i) omg hi
    rw[show((i:Int)-1).toNat=i-1 by omega]
    omega
  unfold jr
  rw[hpos,gE]
  show(v _==3)=true
  rw[beq_iff_eq]
  simpa using hb.2
def bE (v:Nat->Int)(s:Stp):Nat->Int:=if s.rule = -1 then cA v (bP s.atoms) else dh v (s.atoms.getD 0 0).toNat 2
theorem iw {U:Type}(q:U->Bool)(d:U):∀(l:List U) (i:Nat),0<=aE q l i->∃k,k<l.length/\aE q l i=(i+k:Nat)/\q (l.getD k d)=true/\∀j,j<k->q (l.getD j d)=false
 |[],_,h=>by exact absurd h (by show ¬(0:Int) <= -1;omega)
 |x::r,i,h=>by
  unfold aE at h ⊢
  cases hq:q x with
  |true=>exact⟨0,by simp,by simp,by simpa using hq,fun j hj=>absurd hj omg⟩
  |false=>
   rw[hq] at h
   obtain⟨k,h1,h2,h3,h4⟩:=iw q d r (i+1) (by simpa using h)
   refine⟨k+1,by simp;omega,?_,by simpa using h3,fun j hj=>?_⟩
   ·simp only[Bool.false_eq_true,if_false]
    rw[h2];congr 1;omega
   ·cases j with
    |zero=>simpa using hq
    |succ j=>simpa using h4 j omg
theorem nz {U:Type}(q:U->Bool):∀(l:List U) (i:Nat),¬0<=aE q l i->aE q l i = -1/\∀x,x∈l->q x=false
 |[],_,_=>⟨rfl,fun x h=>by cases h⟩
 |x::r,i,h=>by
  unfold aE at h ⊢
  cases hq:q x with
  |true=>rw[hq] at h;exact absurd (by simp) h
  |false=>
   rw[hq] at h
   have:=nz q r (i+1) (by simpa using h)
   refine⟨by simpa using this.1,fun y hy=>?_⟩
   rcases List.mem_cons.1 hy with rfl|hy
   ·exact hq
   ·exact this.2 y hy
theorem rg {p:Prg}{v:Nat->Int}(hr:∀r,r∈p.rules.l->aP r)(h:0<=bi p v):dS p v (eu (al p v))=true/\bE v (al p v)=fQ p v (eu (al p v))/\0<=(al p v).rule/\aX p v=true:=by
 obtain⟨k,h1,h2,h3,_⟩:=iw (cS v) default p.rules.l 0 h
 have hf:bi p v=k:=by unfold bi;rw[h2];simp
 have hn:al p v=⟨bi p v,[(p.rules.l.getD (bi p v).toNat default).head]⟩:=if_pos h
 have hk:(bi p v).toNat=k:=by omega
 unfold cS at h3
 rw[Bool.and_eq_true] at h3
 refine⟨?_,?_,?_,?_⟩
 ·rw[hn]
  unfold dS eu
  simp only[Bool.and_eq_true,beq_iff_eq,decide_eq_true_eq]
  rw[hk]
  exact⟨omg,rfl,rfl,by simpa using h3.1,h3.2⟩
 ·rw[hn]
  unfold bE
  rw[if_neg (by show ¬bi p v = -1;omega)]
  rfl
 ·rw[hn];exact h
 ·unfold aX
  rw[decide_eq_true h];rfl
theorem lg {p:Prg}{v:Nat->Int}(hp:cj p)(h:¬0<=bi p v)(hb:aX p v=true):al p v=⟨-1,aB (gre p v)⟩/\fS p v (al p v).atoms=true/\fT p v (bP (al p v).atoms)=true/\bE v (al p v)=cA v (bP (al p v).atoms)/\gre p v≠0:=by
 have hn:al p v=⟨-1,aB (gre p v)⟩:=if_neg h
 have h0:gre p v≠0:=by
  unfold aX at hb
  rw[decide_eq_false h] at hb
  simpa using hb
 obtain⟨g1,g2,g3⟩:=iu v hp
 refine⟨hn,?_,?_,?_,h0⟩
 ·rw[hn];exact xn hp h0 g3 g2
 ·rw[hn]
  show fT p v (bP (aB (gre p v)))=true
  rw[ny g3]
  exact re v hp
 ·unfold bE
  rw[if_pos (by rw[hn])]
theorem xp {p:Prg}{v:Nat->Int}(hb:aX p v=false):¬0<=bi p v/\gre p v=0:=by
 unfold aX at hb
 rw[Bool.or_eq_false_iff,decide_eq_false_iff_not] at hb
 exact⟨hb.1,by simpa using hb.2⟩
def cr (p:Prg)(v:Nat->Int):Nat:=((List.range p.atoms.toNat).filter (fun a=>v a==3)).length
theorem nA {U:Type}{q q':U->Bool}:∀{l:List U},(∀a,a∈l->q' a=true->q a=true)->(l.filter q').length<=(l.filter q).length
 |[],_=>Nat.le_refl _
 |y::l,hsub=>by
  have ih:=nA (q:=q) (q':=q') (l:=l) (fun a ha=>hsub a (List.mem_cons_of_mem _ ha))
  rw[List.filter_cons,List.filter_cons]
  cases hy':q' y with
  |true=>rw[hsub y (by simp) hy'];simpa using ih
  |false=>cases q y <;> simp <;> omega
theorem ju {U:Type}{q q':U->Bool}:∀{l:List U},(∀a,a∈l->q' a=true->q a=true)->(∃a,a∈l/\q a=true/\q' a=false)->(l.filter q').length<(l.filter q).length
 |[],_,⟨a,h,_⟩=>by cases h
 |x::l,hsub,⟨a,ha,h1,h2⟩=>by
  have hle:(l.filter q').length<=(l.filter q).length:=nA (fun a ha=>hsub a (List.mem_cons_of_mem _ ha))
  rw[List.filter_cons,List.filter_cons]
  rcases List.mem_cons.1 ha with rfl|ha
  ·rw[h1,h2];simp;omega
  ·have ih:=ju (q:=q) (q':=q') (l:=l) (fun a ha=>hsub a (List.mem_cons_of_mem _ ha)) ⟨a,ha,h1,h2⟩
   cases hx':q' x with
   |true=>rw[hsub x (by simp) hx'];simpa using ih
   |false=>cases q x <;> simp <;> omega
theorem xq {p:Prg}{v w:Nat->Int}(hsub:∀a,w a=3->v a=3)(h:∃a:Nat,(a:Int)<p.atoms/\v a=3/\w a≠3):cr p w<cr p v:=by
 obtain⟨a,h1,h2,h3⟩:=h
 refine ju (fun b _ hb=>?_) ⟨a,List.mem_range.2 omg,by simpa using h2,by simpa using h3⟩
 have:w b=3:=by simpa using hb
 simpa using hsub b this
theorem lh (p:Prg)(v:Nat->Int):cr p v<=p.atoms.toNat:=by
 unfold cr
 exact Nat.le_trans (List.length_filter_le _ _) (by rw[List.length_range];exact Nat.le_refl _)
def dj (p:Prg):Prop:=∀r,r∈p.rules.l->r.head<p.atoms
theorem rh {p:Prg}{v:Nat->Int}(hp:cj p)(hr:∀r,r∈p.rules.l->aP r)(hh:dj p)(hb:aX p v=true):(∀a,bE v (al p v) a=3->v a=3)/\∃a:Nat,(a:Int)<p.atoms/\v a=3/\bE v (al p v) a≠3:=by
 by_cases h:0<=bi p v
 ·obtain⟨h1,h2,_,_⟩:=rg hr h
  unfold dS at h1
  simp only[Bool.and_eq_true,beq_iff_eq,decide_eq_true_eq] at h1
  obtain⟨k1,k2,k3,k4,k5⟩:=h1
  have hm:=bO p.rules.l default (show(eu (al p v)).rule.toNat<p.rules.l.length by omega)
  have h3:=(hr _ hm).2
  have h4:=hh _ hm
  rw[h2]
  unfold fQ dh
  refine⟨fun a ha=>?_,(p.rules.l.getD (eu (al p v)).rule.toNat default).head.toNat,omg,k4,?_⟩
  ·split at ha
   ·cases ha
   ·exact ha
  ·rw[if_pos rfl];decide
 ·obtain⟨h1,h2,h3,h4,h5⟩:=lg hp h hb
  obtain⟨g1,g2,g3⟩:=iu v hp
  rw[h4,h1]
  show(∀a,cA v (bP (aB (gre p v))) a=3->_)/\_
  rw[ny g3]
  unfold cA
  refine⟨fun a ha=>?_,?_⟩
  ·split at ha
   ·cases ha
   ·exact ha
  ·obtain⟨a,ha⟩:∃a,(gre p v).testBit a=true:=by
    obtain⟨k,m,h⟩:=Tb.low_of (show 0<gre p v by omega)
    exact⟨k,by rw[Tb.low_bit h];simp⟩
   have:=g2 a ha
   rw[ew,Bool.and_eq_true,decide_eq_true_eq,decide_eq_true_eq] at this
   refine⟨a,by have:=this.1;omega,this.2,?_⟩
   rw[if_pos ha];decide
theorem lj {p:Prg}{v:Nat->Int}(hp:cj p)(hr:∀r,r∈p.rules.l->aP r)(hh:dj p)(hb:aX p v=true):cr p (bE v (al p v))<cr p v:=
 let ⟨h1,h2⟩:=rh hp hr hh hb
 xq h1 h2
theorem ri {p:Prg}{v:Nat->Int}(hp:cj p)(hr:∀r,r∈p.rules.l->aP r)(hh:dj p):(∀a,a∈(al p v).atoms->0<=a/\a<p.atoms)/\(al p v).atoms.length<=24:=by
 by_cases h:0<=bi p v
 ·obtain⟨k,h1,h2,_,_⟩:=iw (cS v) default p.rules.l 0 h
  have hn:al p v=⟨bi p v,[(p.rules.l.getD (bi p v).toNat default).head]⟩:=if_pos h
  have hf:(bi p v).toNat=k:=by unfold bi;rw[h2];simp
  have hm:=bO p.rules.l default h1
  rw[hn,hf]
  refine⟨fun a ha=>?_,by simp⟩
  have:a=(p.rules.l.getD k default).head:=by simpa using ha
  rw[this]
  exact⟨(hr _ hm).2.1,hh _ hm⟩
 ·have hn:al p v=⟨-1,aB (gre p v)⟩:=if_neg h
  obtain⟨g1,g2,g3⟩:=iu v hp
  rw[hn]
  refine⟨fun a ha=>?_,?_⟩
  ·obtain⟨m1,m2,m3⟩:=nv.1 ha
   have:=g2 _ m3
   rw[ew,Bool.and_eq_true,decide_eq_true_eq] at this
   have:=this.1
   omega
  ·show(aB _).length<=24
   rw[eS]
   exact fV _
def dk (p:Prg):Nat->(Nat->Int)->List Stp->List Stp × (Nat->Int)
 |0,v,l=>(l,v)
 |n+1,v,l=>if aX p v then dk p n (bE v (al p v)) (l++[al p v]) else(l,v)
def ai (p:Prg):List Stp × (Nat->Int):=dk p 25 (fun _=>3) []
theorem rj {p:Prg}(hp:cj p)(hr:∀r,r∈p.rules.l->aP r)(hh:dj p):∀(n:Nat) (v:Nat->Int) (l:List Stp),cr p (dk p n v l).2+(dk p n v l).1.length<=cr p v+l.length
 |0,_,_=>Nat.le_refl _
 |n+1,v,l=>by
  show cr p (if aX p v then dk p n (bE v (al p v)) (l++[al p v]) else(l,v)).2+(if aX p v then dk p n (bE v (al p v)) (l++[al p v]) else(l,v)).1.length<=_
  by_cases hb:aX p v=true
  ·rw[if_pos hb]
   have h1:=rj hp hr hh n (bE v (al p v)) (l++[al p v])
   have h2:=lj hp hr hh hb
   rw[List.length_append,List.length_singleton] at h1
   omega
  ·rw[if_neg hb]
   exact Nat.le_refl _
theorem nC {p:Prg}(hp:cj p)(hr:∀r,r∈p.rules.l->aP r)(hh:dj p):(ai p).1.length<=24:=by
 have h:=rj hp hr hh 25 (fun _=>3) []
 have h2:=lh p (fun _=>3)
 have h3:=hp.2
 have h4:(ai p).1.length<=cr p (fun _=>3):=by
  show(dk p 25 (fun _=>3) []).1.length<=_
  simp only[List.length_nil] at h
  omega
 omega
theorem xu {P:Program}{R:Res}{o:Oper}{ev ev':Operand->AV}{hp hp':List AObj}{g g':R.σ}{v:AV}(h:OpOk P R o ev' hp g v hp' g')(hle:∀x,x∈o.op.operands->Le (ev x) (ev' x)):OpOk P R o ev hp g v hp' g':=
 ⟨fun FM Z w evc okw hop=>h.h FM Z w evc okw (fun x hx=>hle x hx _ _ _ (hop x hx))⟩
theorem xw (R:Res)(r:Int)(n N:Nat)(c:Nat->AV)(hc:∀j,j<N->Below 1 (c j))(hr:decide (r = -1)=true)(g:R.σ):Does Tryd.prog R 68 [.agg 2 (nth [.int .i64 r,.ow true 0 n 1])] [cO N c] g (.ret (.ifc 148 (.agg 2 (nth [.int .i64 r,.ow true 0 n 1])))) [cO N c] g:=by
 have hr:=of_decide_eq_true hr
 subst hr
 refine spW (nt:=12) (rs:=[.tmp 2]) (k0:=1) ?_
 refine vcR [[1,0,1,1]] (lkL [(0,[1]),(1,[1,5]),(2,[2])]) (fun _=>[]) (fun Q=>(fun (u1:List AObj)=>1<=2/\(true=true->2<=2/\Q AEx.ret (St.mk [(2,ifc 148 (agg 2 (nth [i6 (-1),ow true 0 n 1])))] u1 g))/\(true=false->WpC Tryd.prog R 12 1 68 [1,0,1,1] Q [Kont.seq [1,1]] (St.mk [(1,ref 1 0),(5,AV.bool true)] u1 g))) ([cO N c,cO 2 (nth [i6 (-1),ow true 0 n 1])])) ⟨omg,fun _=>⟨omg,?_⟩,fun h=>(nomatch h)⟩
 refine(aq (cE 1 _ _ rfl trivial omg ⟨⟨trivial,trivial⟩,(show 1<=1 by omega)⟩ ⟨(fun _ _=>?_),trivial⟩ krf rfl rfl) (Af _))
 exact hc _ (by assumption)
theorem xx (R:Res)(r:Int)(n N:Nat)(c:Nat->AV)(hc:∀j,j<N->Below 1 (c j))(hr:decide (r = -1)=false)(g:R.σ):Does Tryd.prog R 68 [.agg 2 (nth [.int .i64 r,.ow true 0 n 1])] [cO N c] g (.ret (.ifc 149 (.agg 2 (nth [.int .i64 r,.ow true 0 n 1])))) [cO N c] g:=by
 refine spW (nt:=12) (rs:=[.tmp 2]) (k0:=1) ?_
 refine vcR [] (lkL [(0,[1]),(1,[1,5]),(2,[2]),(3,[2])]) (fun _=>[]) (fun Q=>(fun (u1:List AV)=>1<=2/\((r == -1)=true->2<=2/\Q AEx.ret (St.mk [(2,ifc 148 (agg 2 (nth u1)))] [cO N c,cO 2 (nth u1)] g))/\((r == -1)=false->2<=2/\Q AEx.ret (St.mk [(2,ifc 149 (agg 2 (nth u1)))] [cO N c,cO 2 (nth u1)] g))) ([i6 r,ow true 0 n 1])) ⟨omg,fun c1=>have c1:r = -1:=(beq_iff_eq.mp c1);⟨omg,?_⟩,fun c1=>have c1:¬r = -1:=(beq_eq_false_iff_ne.mp c1);⟨omg,?_⟩⟩
 ·exact absurd c1 (of_decide_eq_false hr)
 ·refine(aq (cE 1 _ _ rfl trivial omg ⟨⟨trivial,trivial⟩,(show 1<=1 by omega)⟩ ⟨(fun _ _=>?_),trivial⟩ krf rfl rfl) (Af _))
  exact hc _ (by assumption)
theorem cz {f:Nat->Nat}{p:Prg}{v:Nat->Int}{j m:Nat}(h:f 1=m):aN f (ah p v (.mp 1) j)=ah p v (.mp m) j:=by
 unfold ah
 split
 ·rfl
 ·split
  ·rfl
  ·split
   ·rfl
   ·show AV.mp (f 1)=_
    rw[h]
theorem nE (R:Res)(p:Prg)(o:AObj)(hl:p.rules.l.length<1000000)(hr:∀r,r∈p.rules.l->aP r)(g:R.σ):Does Tryd.prog R 66 [av p] [o] g (.ret (.ref 1 0)) [o,cO 27 (ah p (fun _=>3) (.mp 2)),.map (esF p.rules.l)] g:=
 eM [] 1 (fun R g=>wV R p hl hr g) rfl rfl rfl trivial trivial ⟨bp (by exact⟨⟨trivial,trivial⟩,trivial⟩),trivial⟩ (Af _) ⟨Ai _,Ap (fun j hj=>cz rfl),rfl,trivial⟩
theorem dG {k:Nat}(l:List Int)(j:Nat):Below k (ac l j):=trivial
theorem fk {f:Nat->Nat}(h:True){l:List Int}{j:Nat}:aN f (ac l j)=ac l j:=rfl
def bQ (l:List Stp):Nat->AV:=fun c=>bif Nat.beq (c%2) 0 then .int .i64 (l.getD (c/2) default).rule else .ow true (3+c/2) (l.getD (c/2) default).atoms.length 1
def ab (l:List Stp)(j:Nat):AObj:=cO ((l.getD j default).atoms.length*1) (ac (l.getD j default).atoms)
def jv (p:Prg)(v:Nat->Int)(l:List Stp):List AObj:=cO 27 (ah p v (.mp 1))::.map (esF p.rules.l)::cO (l.length*2) (bQ l)::bz (ab l) []
theorem rl {f:Nat->AV}{g:Nat->AV}:LeO (cO 0 f) (cO 0 g):=⟨rfl,Nat.le_refl _,fun j hj=>absurd hj (Nat.not_lt_zero j)⟩
theorem xy (p:Prg):leH ([cO 27 (ah p (fun _=>3) (.mp 1)),.map (esF p.rules.l)]++List.replicate 25 (cO 0 (fun _=>.any))) (jv p (fun _=>3) []):=
 ⟨Ai _,rfl,rl,qY (f:=fun _=>cO 0 (fun _=>.any)) (fun j hj=>rl) trivial⟩
def eh (l:List Stp)(s:Stp):Nat->AV:=fun c=>bif Nat.blt c (l.length*2) then bQ l c else nth [.int .i64 s.rule,.ow true 28 s.atoms.length 1] (c-l.length*2)
def dx (m:Nat):List Nat:=[0,1,31,(bif Nat.beq 0 m then 28 else 3),(bif Nat.beq 1 m then 28 else 4),(bif Nat.beq 2 m then 28 else 5),(bif Nat.beq 3 m then 28 else 6),(bif Nat.beq 4 m then 28 else 7),(bif Nat.beq 5 m then 28 else 8),(bif Nat.beq 6 m then 28 else 9),(bif Nat.beq 7 m then 28 else 10),(bif Nat.beq 8 m then 28 else 11),(bif Nat.beq 9 m then 28 else 12),(bif Nat.beq 10 m then 28 else 13),(bif Nat.beq 11 m then 28 else 14),(bif Nat.beq 12 m then 28 else 15),(bif Nat.beq 13 m then 28 else 16),(bif Nat.beq 14 m then 28 else 17),(bif Nat.beq 15 m then 28 else 18),(bif Nat.beq 16 m then 28 else 19),(bif Nat.beq 17 m then 28 else 20),(bif Nat.beq 18 m then 28 else 21),(bif Nat.beq 19 m then 28 else 22),(bif Nat.beq 20 m then 28 else 23),(bif Nat.beq 21 m then 28 else 24),(bif Nat.beq 22 m then 28 else 25),(bif Nat.beq 23 m then 28 else 26)]
theorem jw {m:Nat}(hm:m<24):bB (dx m) 32=true/\cD (dx m)=true/\∀b,b<24->au (dx m) 32 (3+b)=(bif Nat.beq b m then 28 else b+3):=by
 have h:(List.range 24).all (fun m=>bB (dx m) 32&&(cD (dx m)&&(List.range 24).all (fun b=>au (dx m) 32 (3+b)==(bif Nat.beq b m then 28 else b+3))))=true:=by decide +kernel
 have h:=(List.all_eq_true.1 h) m (List.mem_range.2 hm)
 simp only[Bool.and_eq_true] at h
 exact⟨h.1,h.2.1,fun b hb=>by simpa using (List.all_eq_true.1 h.2.2) b (List.mem_range.2 hb)⟩
theorem xz {f:Nat->Nat}{hp:List AObj}{m:Nat}{g:Nat->AObj}{x0 x1 x2:AObj}(h:∀j,j<24->LeO (ag hp (bif Nat.beq j m then 28 else j+3)) (bR f (g j)))(h0:LeO (ag hp 0) (bR f x0))(h1:LeO (ag hp 1) (bR f x1))(h2:LeO (ag hp 31) (bR f x2)):cR f hp (dx m) (x0::x1::x2::bz g []):=
 ⟨h0,h1,h2,h 0 dcd,h 1 dcd,h 2 dcd,h 3 dcd,h 4 dcd,h 5 dcd,h 6 dcd,h 7 dcd,h 8 dcd,h 9 dcd,h 10 dcd,h 11 dcd,h 12 dcd,h 13 dcd,h 14 dcd,h 15 dcd,h 16 dcd,h 17 dcd,h 18 dcd,h 19 dcd,h 20 dcd,h 21 dcd,h 22 dcd,h 23 dcd,trivial⟩
theorem nG {j m:Nat}(h:j≠m):Nat.beq j m=false:=by
 cases hx:Nat.beq j m with
 |false=>rfl
 |true=>exact absurd (Nat.eq_of_beq_eq_true hx) h
theorem rm (m:Nat):Nat.beq m m=true:=by simp
theorem rn {l:List Stp}{s:Stp}{z:Nat->AV}{c:Nat}(hc:c<(l.length+1)*2):eh l s c=ba 2 l.length (fun i j=>bQ l (i*2+j)) (fun i j=>am z 0 2 (nth [.int .i64 s.rule,.ow true 28 s.atoms.length 1]) (0+i*2+j)) c:=by
 unfold ba eh
 by_cases h:c<l.length*2
 ·rw[if_pos h,show Nat.blt c (l.length*2)=true by rw[Nat.blt_eq];exact h]
  show bQ l c=bQ l (c/2*2+c%2)
  rw[show c/2*2+c%2=c by omega]
 ·rw[if_neg h,show Nat.blt c (l.length*2)=false from by
   cases hx:Nat.blt c (l.length*2) with
   |false=>rfl
   |true=>exact absurd (by rw[Nat.blt_eq] at hx;exact hx) h]
  show nth _ (c-l.length*2)=am z 0 2 _ (0+(c-l.length*2)/2*2+(c-l.length*2)%2)
  rw[dP,if_pos omg]
  congr 1
  omega
theorem nH {l:List Stp}{s:Stp}{j:Nat}:(l++[s]).getD j default=if j=l.length then s else l.getD j default:=by
 rw[List.getD_eq_getElem?_getD,List.getD_eq_getElem?_getD]
 rcases Nat.lt_trichotomy j l.length with h|h|h
 ·rw[List.getElem?_append_left h,if_neg omg]
 ·subst h
  rw[List.getElem?_append_right (Nat.le_refl _),Nat.sub_self,if_pos rfl]
  rfl
 ·rw[if_neg omg,List.getElem?_eq_none (by simp;omega),List.getElem?_eq_none omg]
theorem ro {p:Prg}{v':Nat->Int}{l:List Stp}{s:Stp}{o27 o29 o30:AObj}(hm:l.length<24):cR (au (dx l.length) 32) (cO 27 (ah p v' (.mp 1))::.map (esF p.rules.l)::.dead::bz (ab l) [o27,cO (s.atoms.length*1) (ac s.atoms),o29,o30,cO ((l.length+1)*2) (eh l s)]) (dx l.length) (jv p v' (l++[s])):=by
 have hf:=(jw hm).2.2
 refine xz (fun j hj=>?_) (Ap (fun j hj=>(cq (f:=au (dx l.length) 32) rfl).symm)) rfl ?_
 ·by_cases hjm:j=l.length
  ·subst hjm
   rw[rm]
   show LeO (cO (s.atoms.length*1) (ac s.atoms)) (bR _ (ab (l++[s]) l.length))
   unfold ab
   rw[nH,if_pos rfl]
   exact Ai _
  ·rw[nG hjm]
   have e:=kZ (f:=ab l) (r:=[o27,cO (s.atoms.length*1) (ac s.atoms),o29,o30,cO ((l.length+1)*2) (eh l s)]) hj
   show LeO (ag (bz (ab l) _) j) _
   rw[e]
   unfold ab
   rw[nH,if_neg hjm]
   exact Ai _
 ·show LeO (cO ((l.length+1)*2) (eh l s)) (cO ((l++[s]).length*2) (fun c=>aN (au (dx l.length) 32) (bQ (l++[s]) c)))
  rw[List.length_append,List.length_singleton]
  refine Ap (fun c hc=>?_)
  unfold eh bQ
  rw[nH]
  by_cases h:c<l.length*2
  ·rw[show Nat.blt c (l.length*2)=true by rw[Nat.blt_eq];exact h,if_neg omg]
   show(bif Nat.beq (c%2) 0 then _ else _)=aN _ (bif Nat.beq (c%2) 0 then _ else _)
   cases Nat.beq (c%2) 0 with
   |true=>rfl
   |false=>
    show AV.ow true (3+c/2) _ 1=AV.ow true (au (dx l.length) 32 (3+c/2)) _ 1
    rw[hf (c/2) omg,nG omg]
    congr 1
    show 3+c/2=c/2+3
    omega
  ·rw[show Nat.blt c (l.length*2)=false from by
    cases hx:Nat.blt c (l.length*2) with
    |false=>rfl
    |true=>exact absurd (by rw[Nat.blt_eq] at hx;exact hx) h,if_pos omg]
   have h2:c=l.length*2∨c=l.length*2+1:=by omega
   rcases h2 with rfl|rfl
   ·rw[show l.length*2%2=0 by omega,Nat.sub_self]
    rfl
   ·rw[show(l.length*2+1)%2=1 by omega,show l.length*2+1-l.length*2=1 by omega,show(l.length*2+1)/2=l.length by omega]
    show AV.ow true 28 _ 1=AV.ow true (au (dx l.length) 32 (3+l.length)) _ 1
    rw[hf l.length hm,rm]
    rfl
theorem nI {R:Res}{o:Oper}{ev:Operand->AV}{hp:List AObj}{g:R.σ}{x y:Operand}(a b:Nat->Int)(r:Bool)(ho:o.op=.binOp .eql 95 x y 95)(hne:x≠y)(hx:Le (ev x) (.agg 24 (fun j=>.int .i64 (a j))))(hy:Le (ev y) (.agg 24 (fun j=>.int .i64 (b j))))(hr:r=true↔∀j,j<24->a j=b j):OpOk Tryd.prog R o ev hp g (.bool r) hp g:=by
 classical
 have h:=vx (P:=Tryd.prog) (R:=R) (hp:=hp) (g:=g) (n:=24) (ev:=fun z=>if z=x then .agg 24 (fun j=>.int .i64 (a j)) else if z=y then .agg 24 (fun j=>.int .i64 (b j)) else .any) (e:=43) (k:=.i64) (a:=a) (b:=b) ho (if_pos rfl) ((if_neg (Ne.symm hne)).trans (if_pos rfl)) krf krf krf krf krf
 have e:∀d:Bool,(d=true↔∀j,j<24->a j=b j)->d=r:=fun d hd=>by
  rw[Bool.eq_iff_iff,hd,hr]
 rw[e _ decide_eq_true_iff] at h
 refine xu h (fun z _=>?_)
 by_cases h1:z=x
 ·subst h1;simp only[if_true];exact hx
 ·by_cases h2:z=y
  ·subst h2;simp only[h1,if_false,if_true];exact hy
  ·simp only[h1,h2,if_false];exact Le.any _
theorem nJ {p:Prg}{v:Nat->Int}{m:AV}:Le (.agg 24 (fun j=>ah p v m (j+2))) (.agg 24 (fun j=>.int .i64 (v j))):=
 Ak (fun j hj=>Ag (fq rfl hj))
theorem nK {p:Prg}{v:Nat->Int}{m:AV}{z:Nat->AV}:Le (.agg 24 (am z 0 24 (fun j=>ah p v m (j+2)))) (.agg 24 (fun j=>.int .i64 (v j))):=
 Ak (fun j hj=>Ag (by rw[dP,if_pos omg,Nat.sub_zero];exact fq rfl hj))
theorem rp {p:Prg}{v:Nat->Int}(hp:cj p)(hr:∀r,r∈p.rules.l->aP r)(hh:dj p)(hb:aX p v=true):false=true↔∀j,j<24->bE v (al p v) j=v j:=by
 obtain⟨_,a,h1,h2,h3⟩:=rh hp hr hh hb
 have:=hp.2
 exact⟨fun h=>(by cases h),fun h=>absurd ((h a omg).trans h2) h3⟩
theorem xA {l:List Stp}(hl:l.length<=24){c:Nat}(hc:c<l.length*2):Below 27 (bQ l c):=by
 unfold bQ
 cases Nat.beq (c%2) 0 with
 |true=>trivial
 |false=>show 3+c/2<27;omega
theorem rq {p:Prg}{v:Nat->Int}{l:List Stp}{f:Nat}(hb:aX p v=true)(hlt:cr p (bE v (al p v))<cr p v)(h1:cr p v+l.length<=p.atoms.toNat)(h2:cr p v<f)(h3:dk p f v l=ai p):cr p (bE v (al p v))+(l++[al p v]).length<=p.atoms.toNat/\∃f,cr p (bE v (al p v))<f/\dk p f (bE v (al p v)) (l++[al p v])=ai p:=by
 refine⟨?_,?_⟩
 ·rw[List.length_append,List.length_singleton];omega
 ·obtain⟨f,rfl⟩:∃k,f=k+1:=⟨f-1,omg⟩
  refine⟨f,omg,?_⟩
  rw[<-h3]
  show _=(if aX p v then _ else _)
  rw[if_pos hb]
theorem rr (R:Res)[Tab LT R](p:Prg)(hl:p.rules.l.length<1000000)(hr:∀r,r∈p.rules.l->aP r)(hp:cj p)(hh:dj p)(g:R.σ):Does Tryd.prog R 60 [av p] [] g (.ret (.tup 2 (nth [.ow true 2 (ai p).1.length 2,.ref 0 0]))) (jv p (ai p).2 (ai p).1) g:=by
 refine spW (nt:=37) (rs:=[.tmp 2,.tmp 3]) (k0:=0) ?_
 refine vcR [] (lkL [(0,[1]),(1,[4]),(2,[4,5])]) (lkL [(1,[(1,ROrc.call (ref 1 0) [cO 2 (nth [i6 p.atoms,ae p.rules]),cO 27 (ah p (fun (x:Nat)=>3) (AV.mp 2)),AObj.map (esF p.rules.l)] g)])]) (fun Q=>(fun (u1:List AObj)=>2<=2/\(true=true/\Does Tryd.prog R 66 [av p] [cO 2 (nth [i6 p.atoms,ae p.rules])] g (ret (ref 1 0)) u1 g)/\WpC Tryd.prog R 37 0 60 [1,1,1,0] Q [Kont.blk 0] (St.mk [(4,ref 1 0),(5,fz Fz.nil 0 0 fun x x_1=>any)] u1 g)) ([cO 2 (nth [i6 p.atoms,ae p.rules]),cO 27 (ah p (fun (x:Nat)=>3) (AV.mp 2)),AObj.map (esF p.rules.l)])) ⟨omg,⟨rfl,(nE _ _ _ omg omg _)⟩,?_⟩
 refine b8 (toS (s':=⟨[(4,.ref 0 0),(5,.fz .nil 0 0 fun _ _=>.any)],[cO 27 (ah p (fun _=>3) (.mp 1)),.map (esF p.rules.l)],g⟩) [1,2] 3 (hob:=⟨Ap (fun j hj=>(cz (f:=au [1,2] 3) rfl).symm),rfl,trivial⟩)) ?_
 refine b8 (fU (fun _=>.any) 25) ?_
 refine b8 (toL (s':=⟨[(4,.ref 0 0),(5,.ow true 2 0 2)],jv p (fun _=>3) [],g⟩) (h1:=⟨Af _,Le.nil_ow,trivial⟩) (h2:=xy p)) ?_
 refine(a8 krf (fun (x:(Nat->Int) × List Stp)=>⟨[(4,ref 0 0),(5,.ow true 2 x.2.length 2)],(jv p x.1 x.2),g⟩) (fun (x:(Nat->Int) × List Stp)=>(cr p x.1+x.2.length<=p.atoms.toNat/\∃f,cr p x.1<f/\dk p f x.1 x.2=ai p)) (fun (x:(Nat->Int) × List Stp)=>(cr p x.1)) ((fun _=>3,[]):(Nat->Int) × List Stp) (aO ⟨Af _,Af _,trivial⟩ rfl rfl) ?_ (fun x hi=>?_))
 ·refine⟨lh p _,25,?_,rfl⟩
  have:=lh p (fun _=>3)
  have:=hp.2
  show cr p (fun _=>3)<25
  omega
 ·obtain⟨v,l⟩:=x
  obtain⟨h1,f,h2,h3⟩:=hi
  simp only at h1 h2 h3
  have hes:=qX hr
  have hp':1<=p.atoms/\p.atoms<=24:=hp
  have hroom:aG=140737488355328:=rfl
  have hat:=ri (v:=v) hp hr hh
  cases hb:aX p v with
  |true=>
   by_cases hf:0<=bi p v
   ·obtain⟨k1,k2,k3,_⟩:=rg hr hf
    have hal:0<(al p v).atoms.length:=by rw[show al p v=_ from if_pos hf];exact Nat.zero_lt_one
    have k4:decide ((al p v).rule = -1)=false:=decide_eq_false omg
    refine vcR [[1,1,1,0,0,0,1,1,1,0],[1,1,1,0,0,0,1,0,1,1,1]] (lkL [(3,[4,5,6]),(4,[4,5,6,7,8]),(5,[4,5,6,7,20]),(6,[4,5,6,7]),(7,[4,5,6]),(8,[4,5,34])]) (lkL [(4,[(1,ROrc.call (tup 2 (nth [agg 2 (nth [i6 (al p v).rule,ow true 28 (List.length (al p v).atoms) 1]),AV.bool (aX p v)])) [cO 27 (ah p v (AV.mp 1)),AObj.map (esF p.rules.l),cO (List.length l*2) (bQ l),ab l 0,ab l 1,ab l 2,ab l 3,ab l 4,ab l 5,ab l 6,ab l 7,ab l 8,ab l 9,ab l 10,ab l 11,ab l 12,ab l 13,ab l 14,ab l 15,ab l 16,ab l 17,ab l 18,ab l 19,ab l 20,ab l 21,ab l 22,ab l 23,cO 24 (am (nth [i6 0,i6 0,i6 0,i6 0,i6 0,i6 0,i6 0,i6 0,i6 0,i6 0,i6 0,i6 0,i6 0,i6 0,i6 0,i6 0,i6 0,i6 0,i6 0,i6 0,i6 0,i6 0,i6 0,i6 0]) 0 24 fun (j:Nat)=>ah p v (AV.mp 1) (j+2)),cO (List.length (al p v).atoms*1) (ac (al p v).atoms)] g),(6,ROrc.val (Orc.obj (nth [i6 (al p v).rule,ow true 28 (List.length (al p v).atoms) 1])))]),(6,[(1,ROrc.kcall (ifc 149 (agg 2 (nth [i6 (al p v).rule,ow true 28 (List.length (al p v).atoms) 1])))),(3,ROrc.inv (tup 0 (nth [])) [cO 27 (ah p (fQ p v (eu (al p v))) (AV.mp 1)),AObj.map (esF p.rules.l),cO (List.length l*2) (bQ l),ab l 0,ab l 1,ab l 2,ab l 3,ab l 4,ab l 5,ab l 6,ab l 7,ab l 8,ab l 9,ab l 10,ab l 11,ab l 12,ab l 13,ab l 14,ab l 15,ab l 16,ab l 17,ab l 18,ab l 19,ab l 20,ab l 21,ab l 22,ab l 23,cO 24 (am (nth [i6 0,i6 0,i6 0,i6 0,i6 0,i6 0,i6 0,i6 0,i6 0,i6 0,i6 0,i6 0,i6 0,i6 0,i6 0,i6 0,i6 0,i6 0,i6 0,i6 0,i6 0,i6 0,i6 0,i6 0]) 0 24 fun (j:Nat)=>ah p v (AV.mp 1) (j+2)),cO (List.length (al p v).atoms*1) fun (a:Nat)=>ac (al p v).atoms a,cO 2 (nth [i6 (al p v).rule,ow true 28 (List.length (al p v).atoms) 1])] g)]),(7,[(3,ROrc.val (Orc.obj (eh l (al p v))))]),(8,[(5,ROrc.kop (AV.bool false))])]) (fun Q=>(fun (u1:List AObj)=>(fun (u2:List AObj)=>(fun (u3:List AV)=>(fun (u4:List AV)=>(fun (u5:AObj)=>(fun (u6:St R.σ)=>(fun (u7:AObj)=>26<=27/\24<=24/\(true=true/\Does Tryd.prog R 96 [ref 0 0] [u5,AObj.map (esF p.rules.l),cO (List.length l*2) (bQ l),ab l 0,ab l 1,ab l 2,ab l 3,ab l 4,ab l 5,ab l 6,ab l 7,ab l 8,ab l 9,ab l 10,ab l 11,ab l 12,ab l 13,ab l 14,ab l 15,ab l 16,ab l 17,ab l 18,ab l 19,ab l 20,ab l 21,ab l 22,ab l 23,u7] g (ret (tup 2 (nth [agg 2 (nth u4),AV.bool (aX p v)]))) [u5,AObj.map (esF p.rules.l),cO (List.length l*2) (bQ l),ab l 0,ab l 1,ab l 2,ab l 3,ab l 4,ab l 5,ab l 6,ab l 7,ab l 8,ab l 9,ab l 10,ab l 11,ab l 12,ab l 13,ab l 14,ab l 15,ab l 16,ab l 17,ab l 18,ab l 19,ab l 20,ab l 21,ab l 22,ab l 23,u7,cO (List.length (al p v).atoms*1) fun a=>ac (al p v).atoms a] g)/\2<=2/\(∀(c:Nat),c<2->nth u4 c=am (nth [i6 0,fz Fz.nil 0 0 fun x x_1=>any]) 0 2 (List.brecOn (motive:=fun (x:List AV)=>Nat->AV) u4 nth._f) c)/\(aX p v=true->2<=2/\(true=true/\Does Tryd.prog R 68 [agg 2 (nth u4)] (u5::u2) g (ret (ifc 149 (agg 2 (nth u4)))) (u5::u2) g)/\(true=true/\true=true/\Does Tryd.prog R 141 [agg 2 (nth u4),ref 0 0] (u5::u2) g (ret (tup 0 (nth []))) (cO 27 (ah p (fQ p v (eu (al p v))) (AV.mp 1))::u2) g)/\2<=2/\0<2/\(List.length l+1)*32<=aG/\List.length l+1<=aG/\2<=2/\List.length l*2<=List.length l*2/\(∀(c:Nat),c<(List.length l+1)*2->eh l (al p v) c=ba 2 (List.length l) (fun (i j:Nat)=>bQ l (i*2+j)) (fun (i j:Nat)=>am (fun (j:Nat)=>nth [i6 0,fz Fz.nil 0 0 fun x x_1=>any] (j%2)) 0 2 (List.brecOn (motive:=fun (x:List AV)=>Nat->AV) u4 nth._f) (0+i*2+j)) c)/\Flw Tryd.prog/\26<=27/\24<=24/\OpOk Tryd.prog R (Oper.mk (some 34) (Op.binOp BinOp.eql 95 (Operand.tmp 32) (Operand.tmp 33) 95) 4 "table.go:195" #[Edge.mk 3 Ground.data,Edge.mk 4 Ground.data] none) (evO [Row.mk (some 33) none (agg 24 (am (nth u3) 0 24 fun j=>ah p v (AV.mp 1) (j+2))) false (some []) [27],Row.mk (some 32) none (agg 24 fun j=>ah p (fQ p v (eu (al p v))) (AV.mp 1) (j+2)) false (some []) [0],Row.mk (some 31) none (ref 0 2) false (some []) [],Row.mk (some 30) none (ref 0 0) false (some []) [],Row.mk (some 29) none (ref 0 0) false (some []) []] [(4,ref 0 0),(5,ow true 31 (List.length l+1) 2),(6,ref 27 0)] []) u1 g (AV.bool false) u1 g/\(false=true->WpC Tryd.prog R 37 0 60 [1,1,1,0,0,0,1,1,1,0] Q [Kont.blk 1] u6)/\(false=false->Q AEx.normal u6))/\(aX p v=false->WpC Tryd.prog R 37 0 60 [1,1,1,0,0,0,1,0,1,1,1] Q [Kont.seq [1,1,1,0,0,0,1,1],Kont.blk 1] (St.mk [(4,ref 0 0),(5,ow true 2 (List.length l) 2),(6,ref 27 0),(7,ref 29 0),(20,AV.bool (aX p v))] (u5::u2) g))) (cO 24 (am (nth u3) 0 24 fun j=>ah p v (AV.mp 1) (j+2)))) (St.mk [(4,ref 0 0),(5,ow true 31 (List.length l+1) 2),(34,AV.bool false)] u1 g)) (cO 27 (ah p v (AV.mp 1)))) ([i6 (al p v).rule,ow true 28 (List.length (al p v).atoms) 1])) ([i6 0,i6 0,i6 0,i6 0,i6 0,i6 0,i6 0,i6 0,i6 0,i6 0,i6 0,i6 0,i6 0,i6 0,i6 0,i6 0,i6 0,i6 0,i6 0,i6 0,i6 0,i6 0,i6 0,i6 0])) ([AObj.map (esF p.rules.l),cO (List.length l*2) (bQ l),ab l 0,ab l 1,ab l 2,ab l 3,ab l 4,ab l 5,ab l 6,ab l 7,ab l 8,ab l 9,ab l 10,ab l 11,ab l 12,ab l 13,ab l 14,ab l 15,ab l 16,ab l 17,ab l 18,ab l 19,ab l 20,ab l 21,ab l 22,ab l 23,cO 24 (am (nth [i6 0,i6 0,i6 0,i6 0,i6 0,i6 0,i6 0,i6 0,i6 0,i6 0,i6 0,i6 0,i6 0,i6 0,i6 0,i6 0,i6 0,i6 0,i6 0,i6 0,i6 0,i6 0,i6 0,i6 0]) 0 24 fun j=>ah p v (AV.mp 1) (j+2)),cO (List.length (al p v).atoms*1) fun a=>ac (al p v).atoms a,cO 2 (nth [i6 (al p v).rule,ow true 28 (List.length (al p v).atoms) 1])])) ([cO 27 (ah p (fQ p v (eu (al p v))) (AV.mp 1)),AObj.map (esF p.rules.l),dead,ab l 0,ab l 1,ab l 2,ab l 3,ab l 4,ab l 5,ab l 6,ab l 7,ab l 8,ab l 9,ab l 10,ab l 11,ab l 12,ab l 13,ab l 14,ab l 15,ab l 16,ab l 17,ab l 18,ab l 19,ab l 20,ab l 21,ab l 22,ab l 23,cO 24 (am (nth [i6 0,i6 0,i6 0,i6 0,i6 0,i6 0,i6 0,i6 0,i6 0,i6 0,i6 0,i6 0,i6 0,i6 0,i6 0,i6 0,i6 0,i6 0,i6 0,i6 0,i6 0,i6 0,i6 0,i6 0]) 0 24 fun j=>ah p v (AV.mp 1) (j+2)),cO (List.length (al p v).atoms*1) fun a=>ac (al p v).atoms a,cO 2 (nth [i6 (al p v).rule,ow true 28 (List.length (al p v).atoms) 1]),cO 2 (am (fun (j:Nat)=>nth [i6 0,fz Fz.nil 0 0 fun x x_1=>any] (j%2)) 0 2 (List.brecOn (motive:=fun (x:List AV)=>Nat->AV) [i6 (al p v).rule,ow true 28 (List.length (al p v).atoms) 1] nth._f)),cO ((List.length l+1)*2) (eh l (al p v))])) ⟨omg,omg,⟨rfl,(doT (T:=LT) [0,1] 28 (fun R _ g=>ns R (p) (v) (esF p.rules.l) omg omg omg omg g) (e3:=by exact⟨⟨rfl,Nat.le_refl _,fun j hj=>(by first|exact bC (by first|exact trivial|apply bj)|exact Ag (cq rfl)|exact Ag (cz (by rfl)))⟩,rfl,Ah,Ah,Ah,Ah,Ah,Ah,Ah,Ah,Ah,Ah,Ah,Ah,Ah,Ah,Ah,Ah,Ah,Ah,Ah,Ah,Ah,Ah,Ah,Ah,Ah,Ah,⟨rfl,Nat.le_refl _,fun j hj=>(by first|exact bC (by first|exact trivial|apply dG)|exact Ag (fk rfl))⟩,trivial⟩))⟩,omg,(fun c hc=>match c,hc with|0,_=>krf|1,_=>krf ),fun _=>⟨omg,⟨rfl,(doT (T:=LT) [28] 30 (fun R _ g=>xx R ((al p v).rule) (List.length (al p v).atoms) (List.length (al p v).atoms*1) (fun (a:Nat)=>ac (al p v).atoms a) ?_ omg g) (e2:=by exact(Le.ifc (Ak (fun i hi=>match i,hi with|0,_=>(Af _)|1,_=>(Af _) )))) (e3:=by exact⟨Ah,rfl,Ah,Ah,Ah,Ah,Ah,Ah,Ah,Ah,Ah,Ah,Ah,Ah,Ah,Ah,Ah,Ah,Ah,Ah,Ah,Ah,Ah,Ah,Ah,Ah,Ah,Ah,⟨rfl,Nat.le_refl _,fun j hj=>(by first|exact bC (by first|exact trivial|apply dG)|exact Ag (fk rfl))⟩,Ah,trivial⟩))⟩,⟨krf,rfl,(doT (T:=LT) [0,1,28] 30 (fun R _ g=>xi R (p) (v) (esF p.rules.l) (al p v) omg omg omg g) (e3:=by exact⟨⟨rfl,Nat.le_refl _,fun j hj=>(by first|exact bC (by first|exact trivial|apply bj)|exact Ag (cq rfl)|exact Ag (cz (by rfl)))⟩,rfl,Ah,Ah,Ah,Ah,Ah,Ah,Ah,Ah,Ah,Ah,Ah,Ah,Ah,Ah,Ah,Ah,Ah,Ah,Ah,Ah,Ah,Ah,Ah,Ah,Ah,Ah,⟨rfl,Nat.le_refl _,fun j hj=>(by first|exact bC (by first|exact trivial|apply dG)|exact Ag (fk rfl))⟩,Ah,trivial⟩))⟩,omg,omg,omg,omg,omg,omg,?_,krf,omg,omg,?_,fun h=>(nomatch h),fun _=>?_⟩,fun hcc=>(nomatch (hb.symm.trans hcc))⟩
    ·exact fun j _=>dG _ _
    ·exact fun c hc=>(rn (z:=fun j=>nth [.int .i64 0,.fz .nil 0 0 fun _ _=>.any] (j%2)) hc).trans krf
    ·rw[<-k2]
     exact nI (x:=.tmp 32) (y:=.tmp 33) (bE v (al p v)) v false rfl (by intro h;cases h) nJ nK (rp hp hr hh hb)
    ·rw[<-k2]
     have hlt:=lj hp hr hh hb
     refine aQ (bE v (al p v),l++[al p v]) (ep (dx l.length) 32 rfl (jw omg).1 (jw omg).2.1 rfl rfl ⟨Af _,Ag (by show _=AV.ow true 31 (l++[al p v]).length 2;rw[List.length_append];rfl),trivial⟩ (by exact ro omg)) (rq hb hlt h1 h2 h3) hlt
   ·obtain⟨k0,k1,k2,k3,_⟩:=lg hp hf hb
    have k4:decide ((al p v).rule = -1)=true:=decide_eq_true (by rw[k0])
    have hal:0<(al p v).atoms.length:=by
     unfold fS at k1
     rw[Bool.and_eq_true] at k1
     exact of_decide_eq_true k1.1
    refine vcR [[1,1,1,0,0,0,1,1,1,0],[1,1,1,0,0,0,1,0,1,1,1]] (lkL [(3,[4,5,6]),(4,[4,5,6,7,8]),(5,[4,5,6,7,20]),(6,[4,5,6,7]),(7,[4,5,6]),(8,[4,5,34])]) (lkL [(4,[(1,ROrc.call (tup 2 (nth [agg 2 (nth [i6 (al p v).rule,ow true 28 (List.length (al p v).atoms) 1]),AV.bool (aX p v)])) [cO 27 (ah p v (AV.mp 1)),AObj.map (esF p.rules.l),cO (List.length l*2) (bQ l),ab l 0,ab l 1,ab l 2,ab l 3,ab l 4,ab l 5,ab l 6,ab l 7,ab l 8,ab l 9,ab l 10,ab l 11,ab l 12,ab l 13,ab l 14,ab l 15,ab l 16,ab l 17,ab l 18,ab l 19,ab l 20,ab l 21,ab l 22,ab l 23,cO 24 (am (nth [i6 0,i6 0,i6 0,i6 0,i6 0,i6 0,i6 0,i6 0,i6 0,i6 0,i6 0,i6 0,i6 0,i6 0,i6 0,i6 0,i6 0,i6 0,i6 0,i6 0,i6 0,i6 0,i6 0,i6 0]) 0 24 fun (j:Nat)=>ah p v (AV.mp 1) (j+2)),cO (List.length (al p v).atoms*1) (ac (al p v).atoms)] g),(6,ROrc.val (Orc.obj (nth [i6 (al p v).rule,ow true 28 (List.length (al p v).atoms) 1])))]),(6,[(1,ROrc.kcall (ifc 148 (agg 2 (nth [i6 (al p v).rule,ow true 28 (List.length (al p v).atoms) 1])))),(3,ROrc.inv (tup 0 (nth [])) [cO 27 (ah p (cA v (bP (al p v).atoms)) (AV.mp 1)),AObj.map (esF p.rules.l),cO (List.length l*2) (bQ l),ab l 0,ab l 1,ab l 2,ab l 3,ab l 4,ab l 5,ab l 6,ab l 7,ab l 8,ab l 9,ab l 10,ab l 11,ab l 12,ab l 13,ab l 14,ab l 15,ab l 16,ab l 17,ab l 18,ab l 19,ab l 20,ab l 21,ab l 22,ab l 23,cO 24 (am (nth [i6 0,i6 0,i6 0,i6 0,i6 0,i6 0,i6 0,i6 0,i6 0,i6 0,i6 0,i6 0,i6 0,i6 0,i6 0,i6 0,i6 0,i6 0,i6 0,i6 0,i6 0,i6 0,i6 0,i6 0]) 0 24 fun (j:Nat)=>ah p v (AV.mp 1) (j+2)),cO (List.length (al p v).atoms*1) fun (a:Nat)=>ac (al p v).atoms a,cO 2 (nth [i6 (al p v).rule,ow true 28 (List.length (al p v).atoms) 1])] g)]),(7,[(3,ROrc.val (Orc.obj (eh l (al p v))))]),(8,[(5,ROrc.kop (AV.bool false))])]) (fun Q=>(fun (u1:List AObj)=>(fun (u2:List AObj)=>(fun (u3:List AV)=>(fun (u4:List AV)=>(fun (u5:AObj)=>(fun (u6:St R.σ)=>(fun (u7:AObj)=>26<=27/\24<=24/\(true=true/\Does Tryd.prog R 96 [ref 0 0] [u5,AObj.map (esF p.rules.l),cO (List.length l*2) (bQ l),ab l 0,ab l 1,ab l 2,ab l 3,ab l 4,ab l 5,ab l 6,ab l 7,ab l 8,ab l 9,ab l 10,ab l 11,ab l 12,ab l 13,ab l 14,ab l 15,ab l 16,ab l 17,ab l 18,ab l 19,ab l 20,ab l 21,ab l 22,ab l 23,u7] g (ret (tup 2 (nth [agg 2 (nth u4),AV.bool (aX p v)]))) [u5,AObj.map (esF p.rules.l),cO (List.length l*2) (bQ l),ab l 0,ab l 1,ab l 2,ab l 3,ab l 4,ab l 5,ab l 6,ab l 7,ab l 8,ab l 9,ab l 10,ab l 11,ab l 12,ab l 13,ab l 14,ab l 15,ab l 16,ab l 17,ab l 18,ab l 19,ab l 20,ab l 21,ab l 22,ab l 23,u7,cO (List.length (al p v).atoms*1) fun a=>ac (al p v).atoms a] g)/\2<=2/\(∀(c:Nat),c<2->nth u4 c=am (nth [i6 0,fz Fz.nil 0 0 fun x x_1=>any]) 0 2 (List.brecOn (motive:=fun (x:List AV)=>Nat->AV) u4 nth._f) c)/\(aX p v=true->2<=2/\(true=true/\Does Tryd.prog R 68 [agg 2 (nth u4)] (u5::u2) g (ret (ifc 148 (agg 2 (nth u4)))) (u5::u2) g)/\(true=true/\true=true/\Does Tryd.prog R 139 [agg 2 (nth u4),ref 0 0] (u5::u2) g (ret (tup 0 (nth []))) (cO 27 (ah p (cA v (bP (al p v).atoms)) (AV.mp 1))::u2) g)/\2<=2/\0<2/\(List.length l+1)*32<=aG/\List.length l+1<=aG/\2<=2/\List.length l*2<=List.length l*2/\(∀(c:Nat),c<(List.length l+1)*2->eh l (al p v) c=ba 2 (List.length l) (fun (i j:Nat)=>bQ l (i*2+j)) (fun (i j:Nat)=>am (fun (j:Nat)=>nth [i6 0,fz Fz.nil 0 0 fun x x_1=>any] (j%2)) 0 2 (List.brecOn (motive:=fun (x:List AV)=>Nat->AV) u4 nth._f) (0+i*2+j)) c)/\Flw Tryd.prog/\26<=27/\24<=24/\OpOk Tryd.prog R (Oper.mk (some 34) (Op.binOp BinOp.eql 95 (Operand.tmp 32) (Operand.tmp 33) 95) 4 "table.go:195" #[Edge.mk 3 Ground.data,Edge.mk 4 Ground.data] none) (evO [Row.mk (some 33) none (agg 24 (am (nth u3) 0 24 fun j=>ah p v (AV.mp 1) (j+2))) false (some []) [27],Row.mk (some 32) none (agg 24 fun j=>ah p (cA v (bP (al p v).atoms)) (AV.mp 1) (j+2)) false (some []) [0],Row.mk (some 31) none (ref 0 2) false (some []) [],Row.mk (some 30) none (ref 0 0) false (some []) [],Row.mk (some 29) none (ref 0 0) false (some []) []] [(4,ref 0 0),(5,ow true 31 (List.length l+1) 2),(6,ref 27 0)] []) u1 g (AV.bool false) u1 g/\(false=true->WpC Tryd.prog R 37 0 60 [1,1,1,0,0,0,1,1,1,0] Q [Kont.blk 1] u6)/\(false=false->Q AEx.normal u6))/\(aX p v=false->WpC Tryd.prog R 37 0 60 [1,1,1,0,0,0,1,0,1,1,1] Q [Kont.seq [1,1,1,0,0,0,1,1],Kont.blk 1] (St.mk [(4,ref 0 0),(5,ow true 2 (List.length l) 2),(6,ref 27 0),(7,ref 29 0),(20,AV.bool (aX p v))] (u5::u2) g))) (cO 24 (am (nth u3) 0 24 fun j=>ah p v (AV.mp 1) (j+2)))) (St.mk [(4,ref 0 0),(5,ow true 31 (List.length l+1) 2),(34,AV.bool false)] u1 g)) (cO 27 (ah p v (AV.mp 1)))) ([i6 (al p v).rule,ow true 28 (List.length (al p v).atoms) 1])) ([i6 0,i6 0,i6 0,i6 0,i6 0,i6 0,i6 0,i6 0,i6 0,i6 0,i6 0,i6 0,i6 0,i6 0,i6 0,i6 0,i6 0,i6 0,i6 0,i6 0,i6 0,i6 0,i6 0,i6 0])) ([AObj.map (esF p.rules.l),cO (List.length l*2) (bQ l),ab l 0,ab l 1,ab l 2,ab l 3,ab l 4,ab l 5,ab l 6,ab l 7,ab l 8,ab l 9,ab l 10,ab l 11,ab l 12,ab l 13,ab l 14,ab l 15,ab l 16,ab l 17,ab l 18,ab l 19,ab l 20,ab l 21,ab l 22,ab l 23,cO 24 (am (nth [i6 0,i6 0,i6 0,i6 0,i6 0,i6 0,i6 0,i6 0,i6 0,i6 0,i6 0,i6 0,i6 0,i6 0,i6 0,i6 0,i6 0,i6 0,i6 0,i6 0,i6 0,i6 0,i6 0,i6 0]) 0 24 fun j=>ah p v (AV.mp 1) (j+2)),cO (List.length (al p v).atoms*1) fun a=>ac (al p v).atoms a,cO 2 (nth [i6 (al p v).rule,ow true 28 (List.length (al p v).atoms) 1])])) ([cO 27 (ah p (cA v (bP (al p v).atoms)) (AV.mp 1)),AObj.map (esF p.rules.l),dead,ab l 0,ab l 1,ab l 2,ab l 3,ab l 4,ab l 5,ab l 6,ab l 7,ab l 8,ab l 9,ab l 10,ab l 11,ab l 12,ab l 13,ab l 14,ab l 15,ab l 16,ab l 17,ab l 18,ab l 19,ab l 20,ab l 21,ab l 22,ab l 23,cO 24 (am (nth [i6 0,i6 0,i6 0,i6 0,i6 0,i6 0,i6 0,i6 0,i6 0,i6 0,i6 0,i6 0,i6 0,i6 0,i6 0,i6 0,i6 0,i6 0,i6 0,i6 0,i6 0,i6 0,i6 0,i6 0]) 0 24 fun j=>ah p v (AV.mp 1) (j+2)),cO (List.length (al p v).atoms*1) fun a=>ac (al p v).atoms a,cO 2 (nth [i6 (al p v).rule,ow true 28 (List.length (al p v).atoms) 1]),cO 2 (am (fun (j:Nat)=>nth [i6 0,fz Fz.nil 0 0 fun x x_1=>any] (j%2)) 0 2 (List.brecOn (motive:=fun (x:List AV)=>Nat->AV) [i6 (al p v).rule,ow true 28 (List.length (al p v).atoms) 1] nth._f)),cO ((List.length l+1)*2) (eh l (al p v))])) ⟨omg,omg,⟨rfl,(doT (T:=LT) [0,1] 28 (fun R _ g=>ns R (p) (v) (esF p.rules.l) omg omg omg omg g) (e3:=by exact⟨⟨rfl,Nat.le_refl _,fun j hj=>(by first|exact bC (by first|exact trivial|apply bj)|exact Ag (cq rfl)|exact Ag (cz (by rfl)))⟩,rfl,Ah,Ah,Ah,Ah,Ah,Ah,Ah,Ah,Ah,Ah,Ah,Ah,Ah,Ah,Ah,Ah,Ah,Ah,Ah,Ah,Ah,Ah,Ah,Ah,Ah,Ah,⟨rfl,Nat.le_refl _,fun j hj=>(by first|exact bC (by first|exact trivial|apply dG)|exact Ag (fk rfl))⟩,trivial⟩))⟩,omg,(fun c hc=>match c,hc with|0,_=>krf|1,_=>krf ),fun _=>⟨omg,⟨rfl,(doT (T:=LT) [28] 30 (fun R _ g=>xw R ((al p v).rule) (List.length (al p v).atoms) (List.length (al p v).atoms*1) (fun (a:Nat)=>ac (al p v).atoms a) ?_ omg g) (e2:=by exact(Le.ifc (Ak (fun i hi=>match i,hi with|0,_=>(Af _)|1,_=>(Af _) )))) (e3:=by exact⟨Ah,rfl,Ah,Ah,Ah,Ah,Ah,Ah,Ah,Ah,Ah,Ah,Ah,Ah,Ah,Ah,Ah,Ah,Ah,Ah,Ah,Ah,Ah,Ah,Ah,Ah,Ah,Ah,⟨rfl,Nat.le_refl _,fun j hj=>(by first|exact bC (by first|exact trivial|apply dG)|exact Ag (fk rfl))⟩,Ah,trivial⟩))⟩,⟨krf,rfl,(doT (T:=LT) [0,1,28] 30 (fun R _ g=>xj R (p) (v) (esF p.rules.l) (al p v) omg omg omg omg omg omg omg g) (e3:=by exact⟨⟨rfl,Nat.le_refl _,fun j hj=>(by first|exact bC (by first|exact trivial|apply bj)|exact Ag (cq rfl)|exact Ag (cz (by rfl)))⟩,rfl,Ah,Ah,Ah,Ah,Ah,Ah,Ah,Ah,Ah,Ah,Ah,Ah,Ah,Ah,Ah,Ah,Ah,Ah,Ah,Ah,Ah,Ah,Ah,Ah,Ah,Ah,⟨rfl,Nat.le_refl _,fun j hj=>(by first|exact bC (by first|exact trivial|apply dG)|exact Ag (fk rfl))⟩,Ah,trivial⟩))⟩,omg,omg,omg,omg,omg,omg,?_,krf,omg,omg,?_,fun h=>(nomatch h),fun _=>?_⟩,fun hcc=>(nomatch (hb.symm.trans hcc))⟩
    ·exact fun j _=>dG _ _
    ·exact fun c hc=>(rn (z:=fun j=>nth [.int .i64 0,.fz .nil 0 0 fun _ _=>.any] (j%2)) hc).trans krf
    ·rw[<-k3]
     exact nI (x:=.tmp 32) (y:=.tmp 33) (bE v (al p v)) v false rfl (by intro h;cases h) nJ nK (rp hp hr hh hb)
    ·rw[<-k3]
     have hlt:=lj hp hr hh hb
     refine aQ (bE v (al p v),l++[al p v]) (ep (dx l.length) 32 rfl (jw omg).1 (jw omg).2.1 rfl rfl ⟨Af _,Ag (by show _=AV.ow true 31 (l++[al p v]).length 2;rw[List.length_append];rfl),trivial⟩ (by exact ro omg)) (rq hb hlt h1 h2 h3) hlt
  |false=>
   have e:ai p=(l,v):=by
    obtain⟨f,rfl⟩:∃k,f=k+1:=⟨f-1,omg⟩
    rw[<-h3]
    show(if aX p v then _ else _)=_
    rw[if_neg (by rw[hb];decide)]
   rw[e]
   refine vcR [[1,1,1,0,0,0,1,0,1,1,0],[1,1,1,0,0,0,1,1,1,1]] (lkL [(3,[4,5,6]),(4,[4,5,6,7,8]),(5,[4,5,6,7,20]),(8,[4,5,34]),(9,[2,3])]) (lkL [(4,[(1,ROrc.call (tup 2 (nth [agg 2 (nth [i6 (al p v).rule,ow true 28 (List.length (al p v).atoms) 1]),AV.bool (aX p v)])) [cO 27 (ah p v (AV.mp 1)),AObj.map (esF p.rules.l),cO (List.length l*2) (bQ l),ab l 0,ab l 1,ab l 2,ab l 3,ab l 4,ab l 5,ab l 6,ab l 7,ab l 8,ab l 9,ab l 10,ab l 11,ab l 12,ab l 13,ab l 14,ab l 15,ab l 16,ab l 17,ab l 18,ab l 19,ab l 20,ab l 21,ab l 22,ab l 23,cO 24 (am (nth [i6 0,i6 0,i6 0,i6 0,i6 0,i6 0,i6 0,i6 0,i6 0,i6 0,i6 0,i6 0,i6 0,i6 0,i6 0,i6 0,i6 0,i6 0,i6 0,i6 0,i6 0,i6 0,i6 0,i6 0]) 0 24 fun (j:Nat)=>ah p v (AV.mp 1) (j+2)),cO (List.length (al p v).atoms*1) (ac (al p v).atoms)] g),(6,ROrc.val (Orc.obj (nth [i6 (al p v).rule,ow true 28 (List.length (al p v).atoms) 1])))]),(8,[(5,ROrc.kop (AV.bool true))])]) (fun Q=>(fun (u1:List AObj)=>(fun (u2:List AV)=>(fun (u3:List AV)=>(fun (u4:List (Nat × AV))=>(fun (u5:AObj)=>26<=27/\24<=24/\(true=true/\Does Tryd.prog R 96 [ref 0 0] [cO 27 (ah p v (AV.mp 1)),AObj.map (esF p.rules.l),cO (List.length l*2) (bQ l),ab l 0,ab l 1,ab l 2,ab l 3,ab l 4,ab l 5,ab l 6,ab l 7,ab l 8,ab l 9,ab l 10,ab l 11,ab l 12,ab l 13,ab l 14,ab l 15,ab l 16,ab l 17,ab l 18,ab l 19,ab l 20,ab l 21,ab l 22,ab l 23,u5] g (ret (tup 2 (nth [agg 2 (nth u3),AV.bool (aX p v)]))) [cO 27 (ah p v (AV.mp 1)),AObj.map (esF p.rules.l),cO (List.length l*2) (bQ l),ab l 0,ab l 1,ab l 2,ab l 3,ab l 4,ab l 5,ab l 6,ab l 7,ab l 8,ab l 9,ab l 10,ab l 11,ab l 12,ab l 13,ab l 14,ab l 15,ab l 16,ab l 17,ab l 18,ab l 19,ab l 20,ab l 21,ab l 22,ab l 23,u5,cO (List.length (al p v).atoms*1) fun a=>ac (al p v).atoms a] g)/\2<=2/\(∀(c:Nat),c<2->nth u3 c=am (nth [i6 0,fz Fz.nil 0 0 fun x x_1=>any]) 0 2 (List.brecOn (motive:=fun (x:List AV)=>Nat->AV) u3 nth._f) c)/\(aX p v=true->WpC Tryd.prog R 37 0 60 [1,1,1,0,0,0,1,0,1,1,0] Q [Kont.seq [1,1,1,0,0,0,1,1],Kont.blk 1] (St.mk u4 u1 g))/\(aX p v=false->Flw Tryd.prog/\26<=27/\24<=24/\OpOk Tryd.prog R (Oper.mk (some 34) (Op.binOp BinOp.eql 95 (Operand.tmp 32) (Operand.tmp 33) 95) 4 "table.go:195" #[Edge.mk 3 Ground.data,Edge.mk 4 Ground.data] none) (evO [Row.mk (some 33) none (agg 24 (am (nth u2) 0 24 fun j=>ah p v (AV.mp 1) (j+2))) false (some []) [27],Row.mk (some 32) none (agg 24 fun j=>ah p v (AV.mp 1) (j+2)) false (some []) [0],Row.mk (some 31) none (ref 0 2) false (some []) [],Row.mk (some 30) none (ref 0 0) false (some []) [],Row.mk (some 29) none (ref 0 0) false (some []) []] u4 []) u1 g (AV.bool true) u1 g/\(true=true->Q AEx.ret (St.mk [(2,ow true 2 (List.length l) 2),(3,ref 0 0)] u1 g))/\(true=false->WpC Tryd.prog R 37 0 60 [1,1,1,0,0,0,1,1,1,1] Q [Kont.blk 1] (St.mk [(4,ref 0 0),(5,ow true 2 (List.length l) 2),(34,AV.bool true)] u1 g)))) (cO 24 (am (nth u2) 0 24 fun j=>ah p v (AV.mp 1) (j+2)))) ([(4,ref 0 0),(5,ow true 2 (List.length l) 2),(6,ref 27 0),(7,ref 29 0),(20,AV.bool (aX p v))])) ([i6 (al p v).rule,ow true 28 (List.length (al p v).atoms) 1])) ([i6 0,i6 0,i6 0,i6 0,i6 0,i6 0,i6 0,i6 0,i6 0,i6 0,i6 0,i6 0,i6 0,i6 0,i6 0,i6 0,i6 0,i6 0,i6 0,i6 0,i6 0,i6 0,i6 0,i6 0])) ([cO 27 (ah p v (AV.mp 1)),AObj.map (esF p.rules.l),cO (List.length l*2) (bQ l),ab l 0,ab l 1,ab l 2,ab l 3,ab l 4,ab l 5,ab l 6,ab l 7,ab l 8,ab l 9,ab l 10,ab l 11,ab l 12,ab l 13,ab l 14,ab l 15,ab l 16,ab l 17,ab l 18,ab l 19,ab l 20,ab l 21,ab l 22,ab l 23,cO 24 (am (nth [i6 0,i6 0,i6 0,i6 0,i6 0,i6 0,i6 0,i6 0,i6 0,i6 0,i6 0,i6 0,i6 0,i6 0,i6 0,i6 0,i6 0,i6 0,i6 0,i6 0,i6 0,i6 0,i6 0,i6 0]) 0 24 fun j=>ah p v (AV.mp 1) (j+2)),cO (List.length (al p v).atoms*1) fun a=>ac (al p v).atoms a,cO 2 (nth [i6 (al p v).rule,ow true 28 (List.length (al p v).atoms) 1])])) ⟨omg,omg,⟨rfl,(doT (T:=LT) [0,1] 28 (fun R _ g=>ns R (p) (v) (esF p.rules.l) omg omg omg omg g) (e3:=by exact⟨⟨rfl,Nat.le_refl _,fun j hj=>(by first|exact bC (by first|exact trivial|apply bj)|exact Ag (cq rfl)|exact Ag (cz (by rfl)))⟩,rfl,Ah,Ah,Ah,Ah,Ah,Ah,Ah,Ah,Ah,Ah,Ah,Ah,Ah,Ah,Ah,Ah,Ah,Ah,Ah,Ah,Ah,Ah,Ah,Ah,Ah,Ah,⟨rfl,Nat.le_refl _,fun j hj=>(by first|exact bC (by first|exact trivial|apply dG)|exact Ag (fk rfl))⟩,trivial⟩))⟩,omg,(fun c hc=>match c,hc with|0,_=>krf|1,_=>krf ),fun hcc=>(nomatch (hb.symm.trans hcc)),fun _=>⟨krf,omg,omg,?_,fun _=>?_,fun h=>(nomatch h)⟩⟩
   ·exact nI (x:=.tmp 32) (y:=.tmp 33) v v true rfl (by intro h;cases h) nJ nK (by simp)
   ·refine⟨_,Ar _,(aq (cE 27 _ _ rfl trivial omg ⟨⟨trivial,(show 3<=27 by omega)⟩,(show 1<=27 by omega)⟩ ⟨(fun _ _=>(by first|exact trivial|apply bj)),(fun _ _=>?_),(fun _ _=>trivial),(fun _ _=>trivial),(fun _ _=>trivial),(fun _ _=>trivial),(fun _ _=>trivial),(fun _ _=>trivial),(fun _ _=>trivial),(fun _ _=>trivial),(fun _ _=>trivial),(fun _ _=>trivial),(fun _ _=>trivial),(fun _ _=>trivial),(fun _ _=>trivial),(fun _ _=>trivial),(fun _ _=>trivial),(fun _ _=>trivial),(fun _ _=>trivial),(fun _ _=>trivial),(fun _ _=>trivial),(fun _ _=>trivial),(fun _ _=>trivial),(fun _ _=>trivial),(fun _ _=>trivial),(fun _ _=>trivial),trivial⟩ krf rfl rfl) (Af _))⟩
    exact xA omg (by assumption)
def aH (v:Nat->Int):Nat->AV:=fun j=>if 2<=j/\j<26 then .int .i64 (v (j-2)) else .any
theorem kL {k:Nat}(v:Nat->Int)(j:Nat):Below k (aH v j):=by
 unfold aH
 split <;> trivial
theorem cJ {f:Nat->Nat}(h:True){v:Nat->Int}{j:Nat}:aN f (aH v j)=aH v j:=by
 unfold aH
 split <;> rfl
theorem nM {v:Nat->Int}{k j:Nat}(e:k=j+2)(h:j<24):aH v k=.int .i64 (v j):=by
 subst e
 unfold aH
 rw[if_pos omg]
 rfl
theorem rt {p:Prg}{v:Nat->Int}{m:AV}{j:Nat}:Le (ah p v m j) (aH v j):=by
 unfold aH
 split
 ·rename_i h
  exact Ag (fq omg omg)
 ·exact Le.any _
def fW (s:Stp):Step:=⟨s.rule,s.atoms,.auto⟩
def bm (l:List Stp):KL Step:=⟨l.map fW,.auto⟩
theorem ru (l:List Stp):(bm l).l.length=l.length:=by unfold bm;rw[List.length_map]
theorem xB {l:List Stp}{i:Nat}(hi:i<l.length):(bm l).l.getD i default=fW (l.getD i default):=by
 unfold bm
 rw[List.getD_eq_getElem?_getD,List.getD_eq_getElem?_getD,List.getElem?_map,List.getElem?_eq_getElem hi]
 rfl
theorem xC {hp:List AObj}{k m o:Nat}{s:Stp}(ho:ag hp o=cO (s.atoms.length*1) (ac s.atoms))(hk:k<=o):ar hp k m (.ow true o s.atoms.length 1) (aj ⟨s.atoms,.auto⟩):=
 (ar.ow ho hk (Nat.le_refl _) dcd (fun j _=>Am (dG _ _))).le (Al rfl (fun i j hi hj=>by
  show AV.int .i64 _=_
  rw[show i*1+j=i by omega]))
theorem ll (R:Res)[Tab LT R](p:Prg)(hl:p.rules.l.length<1000000)(hr:∀r,r∈p.rules.l->aP r)(hp:cj p)(hh:dj p)(g:R.σ):Does Tryd.prog R 60 [av p] [] g (.ret (.tup 2 (nth [aU (bm (ai p).1),.ref 0 0]))) [cO 27 (aH (ai p).2)] g:=by
 refine fM (rr R p hl hr hp hh g) ?_
 have hlen:∀i,i<(ai p).1.length->i<24:=fun i hi=>by have:=nC hp hr hh;omega
 refine To.trans (ik 2 [(0,.tup 2 (nth [aU (bm (ai p).1),.ref 0 0]))] (Nat.zero_le _) (by show 2<=27;omega) (fun i hi=>?_) ⟨ar.tup (fun j hj=>?_),trivial⟩) ?_
 ·match i,hi with
  |0,_=>exact fun j hj=>bj p _ 0 j
  |1,_=>trivial
 ·match j,hj with
  |0,_=>
   refine ar.le (ar.ow (o:=2) (N:=(ai p).1.length*2) (c:=bQ (ai p).1) (get:=fun c=>bif Nat.beq (c%2) 0 then .int .i64 ((ai p).1.getD (c/2) default).rule else aj ⟨((ai p).1.getD (c/2) default).atoms,.auto⟩) (fr:=false) rfl (Nat.le_refl _) (Nat.le_refl _) dcd (fun c hc=>?_)) ?_
   ·unfold bQ
    cases Nat.beq (c%2) 0 with
    |true=>exact Am trivial
    |false=>exact xC ((lb (hlen _ omg)).trans rfl) omg
   ·refine Al (ru _).symm (fun i j hi hj=>?_)
    show _=dQ _ j
    rw[xB hi]
    show(bif Nat.beq ((i*2+j)%2) 0 then _ else _)=_
    rw[show(i*2+j)%2=j by omega,show(i*2+j)/2=i by omega]
    match j,hj with
    |0,_=>rfl
    |1,_=>rfl
  |1,_=>exact Am (show 0<2 by omega)
 ·exact ep [0] 2 rfl rfl rfl rfl rfl ⟨Aj (fun j hj=>match j,hj with|0,_=>Ag rfl|1,_=>Af _),trivial⟩ ⟨⟨rfl,Nat.le_refl _,fun j hj=>by
   show Le (ah p _ (.mp 1) j) (aN _ (aH _ j))
   rw[cJ trivial]
   exact rt⟩,trivial⟩
theorem xD (R:Res)(v:Nat->Int)(n:Nat)(hn:0<n/\n<=24)(g:R.σ):Does Tryd.prog R 61 [.sl 0 2 n 24 true 1] [cO 27 (aH v)] g (.ret (.sl 1 0 n n false 1)) [cO 27 (aH v),cO (n*1) (fun j=>.int .i64 (v j))] g:=by
 have hroom:aG=140737488355328:=rfl
 refine spW (nt:=8) (rs:=[.tmp 2]) (k0:=1) ?_
 refine vcR [[1,0,1,0]] (lkL [(0,[0]),(1,[0,4]),(3,[2])]) (fun _=>[]) (fun Q=>(false=true->WpC Tryd.prog R 8 1 61 [1,0,1,0] Q [Kont.seq [1,1]] (St.mk [(0,sl 0 2 n 24 true 1),(4,AV.bool false)] [cO 27 (aH v)] g))/\(false=false->0<0+n/\0<n/\0<1/\(0+n)*8<=aG/\0+n<=aG/\2+n*1<=27/\0<=0/\Q AEx.ret (St.mk [(2,sl 2 0 (0+n) (0+n) false 1)] [cO 27 (aH v),cO 0 fun j=>i6 0,cO ((0+n)*1) (ba 1 0 (fun (i j:Nat)=>i6 0) fun i j=>aH v (2+i*1+j))] g))) ⟨fun h=>(nomatch h),fun _=>⟨omg,omg,omg,omg,omg,omg,omg,?_⟩⟩
 refine eL (.sl 2 0 (0+n) (0+n) false 1) _ rfl trivial (toS [0,2] 3 (hfr:=⟨Ag (by show AV.sl 2 0 (0+n) (0+n) false 1=AV.sl 2 0 n n false 1;rw[Nat.zero_add]),trivial⟩) (hob:=⟨Ap (fun j hj=>(cJ trivial).symm),⟨rfl,by rw[Nat.zero_add];exact Nat.le_refl _,fun c hc=>Ag ?_⟩,trivial⟩))
 show ba 1 0 _ _ c=AV.int .i64 (v c)
 unfold ba
 rw[if_neg omg]
 show aH v (2+(c-0*1)/1*1+(c-0*1)%1)=_
 exact nM omg omg
def cU (p:Prg)(v:Nat->Int):KL Int:=⟨(List.range p.atoms.toNat).map v,.opn⟩
theorem xE (p:Prg)(v:Nat->Int):(cU p v).l.length=p.atoms.toNat:=by unfold cU;rw[List.length_map,List.length_range]
theorem xF {p:Prg}{v:Nat->Int}{i:Nat}(hi:i<p.atoms.toNat):(cU p v).l.getD i 0=v i:=by
 unfold cU
 rw[List.getD_eq_getElem?_getD,List.getElem?_map,List.getElem?_range hi]
 rfl
theorem eT {p:Prg}(h:aF p=true):p.rules.l.length<1000000/\(∀r,r∈p.rules.l->aP r)/\cj p/\dj p/\(∀r,r∈p.rules.l->∀l,l∈r.body.l->0<=l.atom/\l.atom<p.atoms):=by
 unfold aF at h
 simp only[Bool.and_eq_true,decide_eq_true_eq,List.all_eq_true] at h
 obtain⟨h1,h2,h3⟩:=h
 have hr:∀r,r∈p.rules.l->(0<=r.head/\r.head<=p.atoms-1)/\r.body.l.length<=4/\∀l,l∈r.body.l->0<=l.atom/\l.atom<=p.atoms-1:=fun r hm=>by
  have:=h3 r hm
  unfold eQ at this
  simp only[Bool.and_eq_true,decide_eq_true_eq,List.all_eq_true] at this
  refine⟨this.1,this.2.1,fun l hl=>?_⟩
  have:=this.2.2 l hl
  unfold er at this
  exact of_decide_eq_true this
 refine⟨omg,fun r hm=>?_,h1,fun r hm=>?_,fun r hm l hl=>?_⟩
 ·obtain⟨a1,a2,a3⟩:=hr r hm
  refine⟨⟨omg,fun l hl=>?_⟩,a1.1,omg⟩
  have:=a3 l hl
  omega
 ·have:=(hr r hm).1;omega
 ·have:=(hr r hm).2.2 l hl;omega
theorem gG {p:Prg}(h:aF p=true):eq p:=by
 obtain⟨h1,h2,_⟩:=eT h
 refine⟨h1,fun i=>?_⟩
 rcases Nat.lt_or_ge i p.rules.l.length with hi|hi
 ·exact(h2 _ (bO _ default hi)).1.1
 ·rw[List.getD_eq_getElem?_getD,List.getElem?_eq_none hi]
  exact(by decide:(0:Nat)<1000000)
theorem rx (R:Res)[Tab LT R](p:Prg)(hb:aF p=true)(g:R.σ):Does Tryd.prog R 17 [av p] [] g (.ret (.tup 3 (nth [aU (bm (ai p).1),aj (cU p (ai p).2),.int .i64 0]))) [] g:=by
 obtain⟨hl,hr,hp,hh,hx⟩:=eT hb
 have hs:eq p:=gG hb
 have hp':1<=p.atoms/\p.atoms<=24:=hp
 refine spW (nt:=23) (rs:=[.tmp 2,.tmp 3,.tmp 4]) (k0:=0) ?_
 have hc:((if aF p then(0:Int) else 2) != 0)=false:=by rw[hb];rfl
 refine vcR [[1,0,1,0]] (lkL [(0,[1]),(1,[1,9]),(3,[1,5,6]),(4,[2,3,4])]) (lkL [(1,[(1,ROrc.pcall (i6 (if aF p=true then 0 else 2)))]),(3,[(1,ROrc.call (tup 2 (nth [fz Fz.auto 2 (List.length (bm (ai p).fst).l) fun (i:Nat)=>dQ (List.getD (bm (ai p).fst).l i default),ref 1 0])) [cO 2 (nth [i6 p.atoms,ae p.rules]),cO 27 (aH (ai p).snd)] g)]),(4,[(7,ROrc.callN (sl 2 0 (Int.toNat p.atoms-0) (Int.toNat p.atoms-0) false 1) [] [cO ((Int.toNat p.atoms-0)*1) fun (j:Nat)=>i6 ((ai p).snd j)] g)])]) (fun Q=>(fun (u1:AObj)=>(fun (u2:List AObj)=>(fun (u3:AV)=>(fun (u4:Int)=>(fun (u5:Nat)=>2<=2/\(∀(hp:List AObj) (g:R.σ),true=true/\Does Tryd.prog R 16 [av p] hp g (ret (i6 u4)) hp g)/\((u4 != 0)=true->WpC Tryd.prog R 23 0 17 [1,0,1,0] Q [Kont.seq [1,1]] (St.mk [(1,ref 0 0),(9,AV.bool (u4 != 0))] [u1] g))/\((u4 != 0)=false->2<=2/\(true=true/\Does Tryd.prog R 60 [av p] [u1] g (ret (tup 2 (nth [u3,ref 1 0]))) [u1,cO 27 (aH (ai p).snd)] g)/\Flw Tryd.prog/\1<=2/\(0<=p.atoms/\p.atoms<=(↑24:Int))/\0<24/\26<=27/\0<27/\(true=true/\Does Tryd.prog R 61 [sl 1 2 u5 24 true 1] [u1,cO 27 (aH (ai p).snd)] g (ret (sl 2 0 u5 u5 false 1)) u2 g)/\Q AEx.ret (St.mk [(2,u3),(3,sl 2 0 u5 u5 false 1),(4,i6 0)] u2 g))) (Int.toNat p.atoms-0)) (if aF p=true then 0 else 2)) (fz Fz.auto 2 (List.length (bm (ai p).fst).l) fun i=>dQ (List.getD (bm (ai p).fst).l i default))) ([u1,cO 27 (aH (ai p).snd),cO ((Int.toNat p.atoms-0)*1) fun j=>i6 ((ai p).snd j)])) (cO 2 (nth [i6 p.atoms,ae p.rules]))) ⟨omg,(fun _ _=>⟨rfl,(gw _ _ _ _ omg)⟩),fun hcc=>(nomatch (hc.symm.trans hcc)),fun _=>⟨omg,⟨rfl,(doT (T:=LT) [] 1 (fun R _ g=>ll R (p) omg omg omg omg g))⟩,krf,omg,omg,omg,omg,omg,⟨rfl,(doT (T:=LT) [1] 2 (fun R _ g=>xD R ((ai p).snd) (Int.toNat p.atoms-0) omg g))⟩,?_⟩⟩
 refine eL (.tup 3 (nth [aU (bm (ai p).1),.sl 2 0 (p.atoms.toNat-0) (p.atoms.toNat-0) false 1,.int .i64 0])) _ rfl trivial (ik 0 [(0,.tup 3 (nth [aU (bm (ai p).1),aj (cU p (ai p).2),.int .i64 0]))] (Nat.le_refl _) (Nat.zero_le _) (fun i hi=>absurd hi (Nat.not_lt_zero i)) ⟨ar.tup (fun j hj=>match j,hj with|0,_=>Am trivial|1,_=>ar.le (ar.sl (o:=2) (N:=(p.atoms.toNat-0)*1) (c:=fun j=>.int .i64 ((ai p).2 j)) (get:=fun j=>.int .i64 ((ai p).2 j)) (fr:=false) rfl (Nat.zero_le _) omg (Nat.le_refl _) dcd (fun j _=>Am trivial)) (Al (by rw[xE];rfl) (fun i j hi hj=>?_))|2,_=>Am trivial),trivial⟩)
 have hi':i<p.atoms.toNat:=hi
 rw[xF hi',show 0+i*1+j=i by omega]
end Go.Avm.Pack
