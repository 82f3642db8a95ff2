/- TableStables returns true, and leaves its arguments as they were. No conditions: every input that can be read as data. -/
import Derived.Test.YtbdagmhndndliaaDoorM5
namespace Go.Avm.Pack
open Go Go.Avm Go.Proofs
open Go.IntKind (i64 u64)
open Go.Avm.AV (int bool any fz fp sl ow ref fn ifc val agg tup)
open Go.Avm.AObj (cells dead)
open Go.Avm.Oc (ret)
set_option maxRecDepth 4000
def tT:KL Step:=⟨[⟨1,tS3⟩],.opn⟩
def tV:KL Int:=⟨[2,2,1,1,3,3],.exa⟩
def tO1:KL Int:=⟨[0],.exa⟩
def tO2:KL Int:=⟨[2,3],.exa⟩
def tO3:KL Int:=⟨[1],.exa⟩
def tO4:KL Int:=⟨[4,5],.exa⟩
def tO (i:Nat):KL Int:=[tO1,tO2,tO3,tO4].getD i ⟨[],.nil⟩
def tM1:KL Int:=⟨[1,2],.exa⟩
def tM2:KL Int:=⟨[0,2],.exa⟩
def tM (i:Nat):KL Int:=[tM1,tM2].getD i ⟨[],.nil⟩
theorem zS:er tA (fun _=>3) (tT.l.getD 0 default)=false:=by kernel_rfl
theorem zT:(bl (ak tA).1).l.map dq=tS.l.map dq:=by kernel_rfl
theorem zU:∀i,((bl (ak tA).1).l.getD i default).atoms.l.length<1000000:=by
 intro i
 match i with
 |0=>exact of_decide_eq_true krf
 |1=>exact of_decide_eq_true krf
 |2=>exact of_decide_eq_true krf
 |_+3=>exact of_decide_eq_true krf
theorem zV:∀i,((eh (hgP tA 1) (bh (hgP tA 1) tA.rules.l 0) (ak (aE tA (hgP tA 1))).1).l.getD i default).atoms.l.length<1000000:=by
 intro i
 match i with
 |0=>exact of_decide_eq_true krf
 |1=>exact of_decide_eq_true krf
 |2=>exact of_decide_eq_true krf
 |_+3=>exact of_decide_eq_true krf
theorem oH {s:Nat}:(ag s).l.length<1000000:=by
 show(aU s).length<1000000
 rw[fY]
 have:=gv s
 omega
def lsX (n:Nat)(b:Nat->KL Int):AV:=.fz .exa 1 n (fun i _=>aj (b i))
theorem sW (R:Res)(n:Nat)(a b:Nat->KL Int)(hp:List AObj)(g:R.σ)(hn:n<1000000)(h:∀i,i<n->(a i).l=(b i).l)(hl:∀i,(a i).l.length<1000000) :
  Does Tryd.prog R 29 [bo n a,.fz .exa 1 n (fun i _=>aj (b i))] hp g (.ret (.bool true)) hp g:=by
 refine bR (fun R g=>?_) (by exact⟨trivial,trivial,trivial⟩) R hp g
 refine spW (nt:=34) (rs:=[.tmp 4]) (k0:=0) ?_
 refine vcR [] (lkL [(0,[0,1]),(1,[0,1,5])]) (fun _=>[]) (fun (Q:AEx->St R.σ->Prop)=>WpC Tryd.prog R 34 0 29 [1,0,1,0] Q [Kont.blk 0,Kont.seq [1,1]] (St.mk [(0,bo n a),(1,fz Fz.exa 1 n fun (i x:Nat)=>aj (b i)),(5,int i64 0)] [] g)) (?_)
 refine(aZ krf (fun (i:Nat)=>⟨[(0,bo n a),(1,fz Fz.exa 1 n fun (i x:Nat)=>aj (b i)),(5,.int .i64 i)],[],g⟩) (fun (i:Nat)=>(i<=n)) (fun (i:Nat)=>(n-i)) 0 (aV ⟨Av _,Av _,(Aw krf),trivial⟩ rfl rfl) ?_ (fun i hi=>?_))
 ·omega
 ·have h1:=hl i
  refine vcR [] (lkL [(2,[0,1,5,16]),(4,[0,1,5,28]),(5,[4]),(3,[0,1,5])]) (lkL [(4,[(8,ROrc.pcall (AV.bool (decide ((a i).l=(b i).l))))])]) (fun Q=>(fun (u1:Bool)=>(fun (u2:Int)=>(u1=true->Flw Tryd.prog/\(0<=u2/\u2<(↑n:Int))/\1<=1/\(0<=u2/\u2<(↑n:Int))/\1<=1/\(∀(hp:List AObj) (g:R.σ),true=true/\Does Tryd.prog R 33 [aj (a i),aj (b i)] hp g (ret (AV.bool (decide ((a i).l=(b i).l)))) hp g)/\((!decide ((a i).l=(b i).l))=true->Q AEx.ret (St.mk [(4,AV.bool false)] [] g))/\((!decide ((a i).l=(b i).l))=false->(-9223372036854775808<=u2+1/\u2+1<=9223372036854775807)/\Q AEx.normal (St.mk [(0,bo n a),(1,fz Fz.exa 1 n fun i x=>aj (b i)),(5,int i64 (u2+1))] [] g)))/\(u1=false->Q (AEx.exit 0) (St.mk [(0,bo n a),(1,fz Fz.exa 1 n fun i x=>aj (b i)),(5,int i64 u2),(16,AV.bool u1)] [] g))) ((↑i:Int))) (bif decide ((↑i:Int)<(↑n:Int)) then(↑n:Int)==(↑n:Int) else false)) ⟨fun c1=>have c1:(↑i:Int)<(↑n:Int)/\(↑n:Int)=(↑n:Int):=⟨(of_decide_eq_true (cq c1).1),(beq_iff_eq.mp (cq c1).2)⟩;⟨krf,omg,omg,omg,omg,(fun _ _=>⟨rfl,(nG _ _ _ _ _ omg)⟩),fun c2=>have c2:¬(a i).l=(b i).l:=(of_decide_eq_false ((Bool.not_eq_true' _).mp c2));?_,fun c2=>have c2:(a i).l=(b i).l:=(of_decide_eq_true ((Bool.not_eq_false' _).mp c2));⟨omg,?_⟩⟩,fun c1=>have c1:¬(↑i:Int)<(↑n:Int)∨¬(↑n:Int)=(↑n:Int):=((eH c1).imp (fun h=>(of_decide_eq_false h)) (fun h=>(beq_eq_false_iff_ne.mp h)));?_⟩
  ·exact absurd (h i omg) c2
  ·refine(aL (i+1) (aV ⟨Av _,Av _,(Aw krf),trivial⟩ rfl rfl) ?_ ?_)
   ·omega
   ·omega
  ·refine⟨_,AH _,vcR [] (lkL [(6,[4])]) (fun _=>[]) (fun (Q:AEx->St R.σ->Prop)=>Q AEx.ret (St.mk [(4,AV.bool ((↑n:Int)==(↑n:Int)))] [] g)) (?_)⟩
   refine(aw (aX _ _ rfl trivial rfl rfl rfl) (Aw ?_))
   show(AV.bool ((↑n:Int)==(↑n:Int)))=_
   show AV.bool _=AV.bool _
   simp
theorem kc (R:Res)[Tab LT R](g:R.σ):Does Tryd.prog R 15 [] [] g (.ret (.bool true)) [] g:=by
 have hD:∀(R:Res) [Tab LT R] (g:R.σ),Does Tryd.prog R 17 [au tA] [] g (.ret (.tup 3 (nth [aQ (bl (ak tA).1),aj (ez tA (ak tA).2),.int .i64 0]))) [] g:=fun R _ g=>x9 R tA lZ g
 have hW:∀(R:Res) [Tab LT R] (g:R.σ),Does Tryd.prog R 23 [au tA,aQ tT] [] g (.ret (.tup 2 (nth [.int .i64 0,.int .i64 7]))) [] g:=fun R _ g=>yH R tA tT lZ dcd dcd zS g
 have hO:∀(R:Res) [Tab LT R] (g:R.σ),Does Tryd.prog R 31 [au tA] [] g (.ret (.tup 2 (nth [bo 4 (fun i=>ag ((cD tA).getD i 0)),.int .i64 0]))) [] g:=fun R _ g=>by
  have h:=zF R tA lZ g
  rw[show(cD tA).length=4 by rw[sU];rfl] at h
  exact h
 have hN:∀(R:Res) [Tab LT R] (g:R.σ),Does Tryd.prog R 25 [au tA,.int .i64 1] [] g (.ret (.tup 3 (nth [.int .i64 2,aQ (eh (hgP tA 1) (bh (hgP tA 1) tA.rules.l 0) (ak (aE tA (hgP tA 1))).1),.int .i64 0]))) [] g:=fun R _ g=>by
  have h:=yA R tA 1 lZ dcd g
  rw[show(1:Int).toNat=1 from rfl,zP] at h
  exact h
 have hT:∀(R:Res) [Tab LT R] (g:R.σ),Does Tryd.prog R 27 [au tB,.int .i64 9] [] g (.ret (.tup 2 (nth [bo 2 (fun i=>ag ((stP tB 9).getD i 0)),.int .i64 0]))) [] g:=fun R _ g=>by
  have h:=sS R tB 9 zN dcd zR g
  rw[show(stP tB 9).length=2 by rw[sV];rfl] at h
  exact h
 have hS1:∀(R:Res) (hp:List AObj) (g:R.σ),Does Tryd.prog R 20 [aQ (bl (ak tA).1),aQ tS] hp g (.ret (.bool true)) hp g:=fun R hp g=>by
  have h:=qX R (bl (ak tA).1) tS hp g (by rw[oi,zO];decide) zU
  rw[decide_eq_true zT] at h
  exact h
 have hV1:∀(R:Res) (hp:List AObj) (g:R.σ),Does Tryd.prog R 21 [aj (ez tA (ak tA).2),aj tV] hp g (.ret (.bool true)) hp g:=fun R hp g=>by
  have h:=wM R (ez tA (ak tA).2) tV hp g (by rw[sT];decide)
  rw[decide_eq_true (show(ez tA (ak tA).2).l=tV.l from sT)] at h
  exact h
 have hL1:∀(R:Res) (hp:List AObj) (g:R.σ),Does Tryd.prog R 29 [bo 4 (fun i=>ag ((cD tA).getD i 0)),lsX 4 tO] hp g (.ret (.bool true)) hp g:=fun R hp g=>sW R 4 _ _ hp g dcd (fun i hi=>by
  rw[sU]
  match i,hi with
  |0,_=>exact of_decide_eq_true krf
  |1,_=>exact of_decide_eq_true krf
  |2,_=>exact of_decide_eq_true krf
  |3,_=>exact of_decide_eq_true krf) (fun i=>oH)
 have hL2:∀(R:Res) (hp:List AObj) (g:R.σ),Does Tryd.prog R 29 [bo 2 (fun i=>ag ((stP tB 9).getD i 0)),lsX 2 tM] hp g (.ret (.bool true)) hp g:=fun R hp g=>sW R 2 _ _ hp g dcd (fun i hi=>by
  rw[sV]
  match i,hi with
  |0,_=>exact of_decide_eq_true krf
  |1,_=>exact of_decide_eq_true krf) (fun i=>oH)
 have hS2:∀(R:Res) (hp:List AObj) (g:R.σ),Does Tryd.prog R 20 [aQ (eh (hgP tA 1) (bh (hgP tA 1) tA.rules.l 0) (ak (aE tA (hgP tA 1))).1),aQ tS] hp g (.ret (.bool true)) hp g:=fun R hp g=>by
  have h:=qX R (eh (hgP tA 1) (bh (hgP tA 1) tA.rules.l 0) (ak (aE tA (hgP tA 1))).1) tS hp g (of_decide_eq_true krf) zV
  rw[decide_eq_true zQ] at h
  exact h
 have hA:∀(R:Res) (hp:List AObj) (g:R.σ),Does Tryd.prog R 44 [] hp g (.ret (au tA)) hp g:=fun R hp g=>c_A R hp g
 have hB:∀(R:Res) (hp:List AObj) (g:R.σ),Does Tryd.prog R 45 [] hp g (.ret (au tB)) hp g:=fun R hp g=>c_B R hp g
 have hC:∀(R:Res) (hp:List AObj) (g:R.σ),Does Tryd.prog R 57 [] hp g (.ret (aQ tS)) hp g:=fun R hp g=>zM R hp g
 obtain⟨n1,e1⟩:∃v,v=aQ (bl (ak tA).1):=⟨_,rfl⟩
 obtain⟨n2,e2⟩:∃v,v=aj (ez tA (ak tA).2):=⟨_,rfl⟩
 obtain⟨n3,e3⟩:∃v,v=bo 4 (fun i=>ag ((cD tA).getD i 0)):=⟨_,rfl⟩
 obtain⟨n4,e4⟩:∃v,v=aQ (eh (hgP tA 1) (bh (hgP tA 1) tA.rules.l 0) (ak (aE tA (hgP tA 1))).1):=⟨_,rfl⟩
 obtain⟨n5,e5⟩:∃v,v=bo 2 (fun i=>ag ((stP tB 9).getD i 0)):=⟨_,rfl⟩
 simp only[<-e1,<-e2,<-e3,<-e4,<-e5] at hD hO hN hT hS1 hV1 hL1 hL2 hS2
 obtain⟨a,ha⟩:∃v,v=tA:=⟨_,rfl⟩
 obtain⟨b,hb⟩:∃v,v=tB:=⟨_,rfl⟩
 obtain⟨s,hs⟩:∃v,v=tS:=⟨_,rfl⟩
 obtain⟨t,ht⟩:∃v,v=tT:=⟨_,rfl⟩
 obtain⟨v,hv⟩:∃v,v=tV:=⟨_,rfl⟩
 rw[<-ha] at hA hD hW hO hN
 rw[<-hb] at hB hT
 rw[<-hs] at hC hS1 hS2
 rw[<-ht] at hW
 rw[<-hv] at hV1
 obtain⟨o1,w1⟩:∃v,v=tO1:=⟨_,rfl⟩
 obtain⟨o2,w2⟩:∃v,v=tO2:=⟨_,rfl⟩
 obtain⟨o3,w3⟩:∃v,v=tO3:=⟨_,rfl⟩
 obtain⟨o4,w4⟩:∃v,v=tO4:=⟨_,rfl⟩
 obtain⟨m1,w5⟩:∃v,v=tM1:=⟨_,rfl⟩
 obtain⟨m2,w6⟩:∃v,v=tM2:=⟨_,rfl⟩
 obtain⟨q1,w7⟩:∃v,v=tO:=⟨_,rfl⟩
 obtain⟨q2,w8⟩:∃v,v=tM:=⟨_,rfl⟩
 rw[<-w7] at hL1
 rw[<-w8] at hL2
 refine spW (nt:=97) (rs:=[.tmp 0]) (k0:=0) ?_
 refine vcR [[1,1,1,1,1,1,0,1,0]] (lkL [(1,[1,2,3]),(2,[1,2,3,4,5]),(3,[1,2,3,4,5,6,7]),(4,[1,2,3,4,5,6,7,8,9,10]),(5,[1,2,3,4,5,6,7,8,9,10,11,12]),(6,[1,2,4,6,8,9,11,59]),(8,[0])]) (lkL [(1,[(0,ROrc.pcall (au a)),(1,ROrc.kcall (tup 3 (nth [n1,n2,int i64 0])))]),(2,[(0,ROrc.pcall (au a)),(1,ROrc.pcall (aQ s)),(2,ROrc.kop (aQ t)),(3,ROrc.kcall (tup 2 (nth [int i64 0,int i64 7])))]),(3,[(0,ROrc.pcall (au a)),(1,ROrc.kcall (tup 2 (nth [n3,int i64 0])))]),(4,[(0,ROrc.pcall (au a)),(1,ROrc.kcall (tup 3 (nth [int i64 2,n4,int i64 0])))]),(5,[(0,ROrc.pcall (au b)),(1,ROrc.kcall (tup 2 (nth [n5,int i64 0])))]),(8,[(1,ROrc.pcall (aQ s)),(2,ROrc.pcall (AV.bool true)),(5,ROrc.kop (aj v)),(6,ROrc.pcall (AV.bool true)),(14,ROrc.kop (aj o1)),(15,ROrc.kop (aj o2)),(16,ROrc.kop (aj o3)),(17,ROrc.kop (aj o4)),(18,ROrc.kop (lsX 4 q1)),(19,ROrc.pcall (AV.bool true)),(27,ROrc.pcall (aQ s)),(28,ROrc.pcall (AV.bool true)),(32,ROrc.kop (aj m1)),(33,ROrc.kop (aj m2)),(34,ROrc.kop (lsX 2 q2)),(35,ROrc.pcall (AV.bool true))])]) (fun Q=>(fun (u1:List Row)=>(fun (u2:List Row)=>(fun (u3:List (Nat × AV))=>(fun (u4:List Row)=>(fun (u5:Operand)=>(fun (u6:Nat × Bool)=>(fun (u7:List Edge)=>(fun (u8:Operand)=>(fun (u9:List Row)=>(fun (u10:Operand)=>(fun (u11:List Row)=>(∀(hp:List AObj) (g:R.σ),true=true/\Does Tryd.prog R 44 [] hp g (ret (au a)) hp g)/\(true=true/\Does Tryd.prog R 17 [au a] [] g (ret (tup 3 (nth [n1,n2,int i64 0]))) [] g)/\(∀(hp:List AObj) (g:R.σ),true=true/\Does Tryd.prog R 44 [] hp g (ret (au a)) hp g)/\(∀(hp:List AObj) (g:R.σ),true=true/\Does Tryd.prog R 57 [] hp g (ret (aQ s)) hp g)/\OpOk Tryd.prog R (Oper.mk (some 22) (Op.slice 29 (Operand.tmp 21) (some u5) none none) 29 "law.go:36" #[Edge.mk 1 Ground.data] none) (evO [Row.mk (some 21) none (aQ s) false (some []) [],Row.mk (some 20) none (au a) false (some []) []] [(1,n1),(2,n2),(3,int i64 0)] []) [] g (aQ t) [] g/\(true=true/\Does Tryd.prog R 23 [au a,aQ t] [] g (ret (tup 2 (nth [int i64 0,int i64 7]))) [] g)/\(∀(hp:List AObj) (g:R.σ),true=true/\Does Tryd.prog R 44 [] hp g (ret (au a)) hp g)/\(true=true/\Does Tryd.prog R 31 [au a] [] g (ret (tup 2 (nth [n3,int i64 0]))) [] g)/\(∀(hp:List AObj) (g:R.σ),true=true/\Does Tryd.prog R 44 [] hp g (ret (au a)) hp g)/\(true=true/\Does Tryd.prog R 25 [au a,int i64 1] [] g (ret (tup 3 (nth [int i64 2,n4,int i64 0]))) [] g)/\(∀(hp:List AObj) (g:R.σ),true=true/\Does Tryd.prog R 45 [] hp g (ret (au b)) hp g)/\(true=true/\Does Tryd.prog R 27 [au b,int i64 9] [] g (ret (tup 2 (nth [n5,int i64 0]))) [] g)/\(false=true->WpC Tryd.prog R 97 0 15 [1,1,1,1,1,1,0,1,0] Q [Kont.seq [1,1,1,1,1,1,1]] (St.mk u3 [] g))/\(false=false->(∀(hp:List AObj) (g:R.σ),true=true/\Does Tryd.prog R 57 [] hp g (ret (aQ s)) hp g)/\(∀(hp:List AObj) (g:R.σ),true=true/\Does Tryd.prog R 20 [n1,aQ s] hp g (ret (AV.bool true)) hp g)/\(true=true->OpOk Tryd.prog R (Oper.mk (some 65) (Op.buildSlice 33 6 #[(0,u5),(1,u5),(2,u8),(3,u8),(4,u10),(5,u10)]) 33 "law.go:43" #[Edge.mk 3 Ground.guard] (some (3,true))) (evO [Row.mk (some 64) (some (3,true)) n2 false (some []) [],Row.mk (some 63) none (AV.bool true) false (some []) [],Row.mk (some 62) none (AV.bool true) false (some []) [],Row.mk (some 61) none (aQ s) false (some []) [],Row.mk (some 60) none n1 false (some []) []] u3 [(3,true)]) [] g (aj v) [] g)/\(true=true->∀(hp:List AObj) (g:R.σ),true=true/\Does Tryd.prog R 21 [n2,aj v] hp g (ret (AV.bool true)) hp g)/\(true=true->OpOk Tryd.prog R (Oper.mk (some 74) (Op.buildSlice 53 1 #[(0,Operand.const (Value.int i64 0))]) 53 "law.go:43" (List.toArray u7) (some u6)) (evO u1 u3 [u6]) [] g (aj o1) [] g)/\(true=true->OpOk Tryd.prog R (Oper.mk (some 75) (Op.buildSlice 53 2 #[(0,u5),(1,u10)]) 53 "law.go:43" (List.toArray u7) (some u6)) (evO (Row.mk (some 74) (some u6) (aj o1) true (some []) []::u1) u3 [u6]) [] g (aj o2) [] g)/\(true=true->OpOk Tryd.prog R (Oper.mk (some 76) (Op.buildSlice 53 1 #[(0,u8)]) 53 "law.go:43" (List.toArray u7) (some u6)) (evO u4 u3 [u6]) [] g (aj o3) [] g)/\(true=true->OpOk Tryd.prog R (Oper.mk (some 77) (Op.buildSlice 53 2 #[(0,Operand.const (Value.int i64 4)),(1,Operand.const (Value.int i64 5))]) 53 "law.go:43" (List.toArray u7) (some u6)) (evO u11 u3 [u6]) [] g (aj o4) [] g)/\(true=true->OpOk Tryd.prog R (Oper.mk (some 78) (Op.buildSlice 49 4 #[(0,Operand.tmp 74),(1,Operand.tmp 75),(2,Operand.tmp 76),(3,Operand.tmp 77)]) 49 "law.go:43" (List.toArray (Edge.mk 14 Ground.data::Edge.mk 15 Ground.data::Edge.mk 16 Ground.data::Edge.mk 17 Ground.data::u7)) (some u6)) (evO (Row.mk (some 77) (some u6) (aj o4) true (some []) []::u11) u3 [u6]) [] g (fz Fz.exa 1 4 fun i x=>aj (q1 i)) [] g)/\(true=true->∀(hp:List AObj) (g:R.σ),true=true/\Does Tryd.prog R 29 [n3,fz Fz.exa 1 4 fun i x=>aj (q1 i)] hp g (ret (AV.bool true)) hp g)/\(true=true->∀(hp:List AObj) (g:R.σ),true=true/\Does Tryd.prog R 57 [] hp g (ret (aQ s)) hp g)/\(true=true->∀(hp:List AObj) (g:R.σ),true=true/\Does Tryd.prog R 20 [n4,aQ s] hp g (ret (AV.bool true)) hp g)/\(true=true->OpOk Tryd.prog R (Oper.mk (some 92) (Op.buildSlice 53 2 #[(0,u8),(1,u5)]) 53 "law.go:43" #[Edge.mk 30 Ground.guard] (some (30,true))) (evO u2 u3 [(30,true)]) [] g (aj m1) [] g)/\(true=true->OpOk Tryd.prog R (Oper.mk (some 93) (Op.buildSlice 53 2 #[(0,Operand.const (Value.int i64 0)),(1,u5)]) 53 "law.go:43" #[Edge.mk 30 Ground.guard] (some (30,true))) (evO u9 u3 [(30,true)]) [] g (aj m2) [] g)/\(true=true->OpOk Tryd.prog R (Oper.mk (some 94) (Op.buildSlice 49 2 #[(0,Operand.tmp 92),(1,Operand.tmp 93)]) 49 "law.go:43" #[Edge.mk 32 Ground.data,Edge.mk 33 Ground.data,Edge.mk 30 Ground.guard] (some (30,true))) (evO (Row.mk (some 93) (some (30,true)) (aj m2) true (some []) []::u9) u3 [(30,true)]) [] g (fz Fz.exa 1 2 fun i x=>aj (q2 i)) [] g)/\(true=true->∀(hp:List AObj) (g:R.σ),true=true/\Does Tryd.prog R 29 [n5,fz Fz.exa 1 2 fun i x=>aj (q2 i)] hp g (ret (AV.bool true)) hp g)/\Q AEx.ret (St.mk [(0,AV.bool true)] [] g))) (Row.mk (some 76) (some u6) (aj o3) true (some []) []::u4)) (Operand.const (Value.int i64 3))) (Row.mk (some 92) (some (30,true)) (aj m1) true (some []) []::u2)) (Operand.const (Value.int i64 1))) ([Edge.mk 12 Ground.guard])) ((12,true))) (Operand.const (Value.int i64 2))) (Row.mk (some 75) (some (12,true)) (aj o2) true (some []) []::Row.mk (some 74) (some (12,true)) (aj o1) true (some []) []::u1)) ([(1,n1),(2,n2),(4,int i64 0),(6,n3),(8,int i64 2),(9,n4),(11,n5),(59,AV.bool false)])) (Row.mk (some 91) (some (30,true)) n5 false (some []) []::Row.mk (some 90) none (AV.bool true) false (some []) []::Row.mk (some 89) none (AV.bool true) false (some []) []::Row.mk (some 88) (some (25,true)) (AV.bool true) false (some []) []::Row.mk (some 87) (some (25,true)) (aQ s) false (some []) []::Row.mk (some 86) (some (25,true)) n4 false (some []) []::Row.mk (some 85) none (AV.bool true) false (some []) []::Row.mk (some 84) none (AV.bool true) false (some []) []::Row.mk (some 83) (some (21,true)) (AV.bool true) false (some []) []::Row.mk (some 82) (some (21,true)) (int i64 2) false (some []) []::Row.mk (some 81) none (AV.bool true) false (some []) []::Row.mk (some 80) none (AV.bool true) false (some []) []::Row.mk (some 79) (some (12,true)) (AV.bool true) false (some []) []::Row.mk (some 78) (some (12,true)) (fz Fz.exa 1 4 fun i x=>aj (q1 i)) true (some []) []::Row.mk (some 77) (some (12,true)) (aj o4) true (some []) []::Row.mk (some 76) (some (12,true)) (aj o3) true (some []) []::Row.mk (some 75) (some (12,true)) (aj o2) true (some []) []::Row.mk (some 74) (some (12,true)) (aj o1) true (some []) []::u1)) ([Row.mk (some 73) (some (12,true)) n3 false (some []) [],Row.mk (some 72) none (AV.bool true) false (some []) [],Row.mk (some 71) none (AV.bool true) false (some []) [],Row.mk (some 70) (some (8,true)) (AV.bool true) false (some []) [],Row.mk (some 69) (some (8,true)) (int i64 0) false (some []) [],Row.mk (some 68) none (AV.bool true) false (some []) [],Row.mk (some 67) none (AV.bool true) false (some []) [],Row.mk (some 66) (some (3,true)) (AV.bool true) false (some []) [],Row.mk (some 65) (some (3,true)) (aj v) true (some []) [],Row.mk (some 64) (some (3,true)) n2 false (some []) [],Row.mk (some 63) none (AV.bool true) false (some []) [],Row.mk (some 62) none (AV.bool true) false (some []) [],Row.mk (some 61) none (aQ s) false (some []) [],Row.mk (some 60) none n1 false (some []) []])) ⟨(fun _ _=>⟨rfl,(hA _ _ _)⟩),⟨rfl,(hD _ _)⟩,(fun _ _=>⟨rfl,(hA _ _ _)⟩),(fun _ _=>⟨rfl,(hC _ _ _)⟩),?_,⟨rfl,(hW _ _)⟩,(fun _ _=>⟨rfl,(hA _ _ _)⟩),⟨rfl,(hO _ _)⟩,(fun _ _=>⟨rfl,(hA _ _ _)⟩),⟨rfl,(hN _ _)⟩,(fun _ _=>⟨rfl,(hB _ _ _)⟩),⟨rfl,(hT _ _)⟩,fun h=>(nomatch h),fun _=>⟨(fun _ _=>⟨rfl,(hC _ _ _)⟩),(fun _ _=>⟨rfl,(hS1 _ _ _)⟩),?_,(fun hgd=>(fun _ _=>⟨rfl,(hV1 _ _ _)⟩)),?_,?_,?_,?_,?_,(fun hgd=>(fun _ _=>⟨rfl,(hL1 _ _ _)⟩)),(fun hgd=>(fun _ _=>⟨rfl,(hC _ _ _)⟩)),(fun hgd=>(fun _ _=>⟨rfl,(hS2 _ _ _)⟩)),?_,?_,?_,(fun hgd=>(fun _ _=>⟨rfl,(hL2 _ _ _)⟩)),?_⟩⟩
 ·subst hs ht
  exact lc rfl (by exact⟨Nat.le_refl _,⟨dcd,dcd⟩,trivial⟩) (kK rfl (fun i j hi hj=>match i,hi with|0,_=>rfl))
 ·intro _;subst hv;exact cd (n:=6) (es:=1) krf (by exact⟨trivial,trivial,trivial,trivial,trivial,trivial,trivial⟩) rfl rfl (fun i hi j hj=>match i,hi,j,hj with|0,_,0,_=>krf|1,_,0,_=>krf|2,_,0,_=>krf|3,_,0,_=>krf|4,_,0,_=>krf|5,_,0,_=>krf ) (fun i hi j hj=>match i,hi,j,hj with|0,_,0,_=>trivial|1,_,0,_=>trivial|2,_,0,_=>trivial|3,_,0,_=>trivial|4,_,0,_=>trivial|5,_,0,_=>trivial )
 ·intro _;subst w1;exact cd (n:=1) (es:=1) krf (by exact⟨trivial,trivial⟩) rfl rfl (fun i hi j hj=>match i,hi,j,hj with|0,_,0,_=>krf ) (fun i hi j hj=>match i,hi,j,hj with|0,_,0,_=>trivial )
 ·intro _;subst w2;exact cd (n:=2) (es:=1) krf (by exact⟨trivial,trivial,trivial⟩) rfl rfl (fun i hi j hj=>match i,hi,j,hj with|0,_,0,_=>krf|1,_,0,_=>krf ) (fun i hi j hj=>match i,hi,j,hj with|0,_,0,_=>trivial|1,_,0,_=>trivial )
 ·intro _;subst w3;exact cd (n:=1) (es:=1) krf (by exact⟨trivial,trivial⟩) rfl rfl (fun i hi j hj=>match i,hi,j,hj with|0,_,0,_=>krf ) (fun i hi j hj=>match i,hi,j,hj with|0,_,0,_=>trivial )
 ·intro _;subst w4;exact cd (n:=2) (es:=1) krf (by exact⟨trivial,trivial,trivial⟩) rfl rfl (fun i hi j hj=>match i,hi,j,hj with|0,_,0,_=>krf|1,_,0,_=>krf ) (fun i hi j hj=>match i,hi,j,hj with|0,_,0,_=>trivial|1,_,0,_=>trivial )
 ·intro _;subst w1 w2 w3 w4 w7;exact cd (n:=4) (es:=1) krf (by exact⟨trivial,trivial,trivial,trivial,trivial⟩) rfl rfl (fun i hi j hj=>match i,hi,j,hj with|0,_,0,_=>krf|1,_,0,_=>krf|2,_,0,_=>krf|3,_,0,_=>krf ) (fun i hi j hj=>match i,hi,j,hj with|0,_,0,_=>trivial|1,_,0,_=>trivial|2,_,0,_=>trivial|3,_,0,_=>trivial )
 ·intro _;subst w5;exact cd (n:=2) (es:=1) krf (by exact⟨trivial,trivial,trivial⟩) rfl rfl (fun i hi j hj=>match i,hi,j,hj with|0,_,0,_=>krf|1,_,0,_=>krf ) (fun i hi j hj=>match i,hi,j,hj with|0,_,0,_=>trivial|1,_,0,_=>trivial )
 ·intro _;subst w6;exact cd (n:=2) (es:=1) krf (by exact⟨trivial,trivial,trivial⟩) rfl rfl (fun i hi j hj=>match i,hi,j,hj with|0,_,0,_=>krf|1,_,0,_=>krf ) (fun i hi j hj=>match i,hi,j,hj with|0,_,0,_=>trivial|1,_,0,_=>trivial )
 ·intro _;subst w5 w6 w8;exact cd (n:=2) (es:=1) krf (by exact⟨trivial,trivial,trivial⟩) rfl rfl (fun i hi j hj=>match i,hi,j,hj with|0,_,0,_=>krf|1,_,0,_=>krf ) (fun i hi j hj=>match i,hi,j,hj with|0,_,0,_=>trivial|1,_,0,_=>trivial )
 ·refine(aw (aX _ _ rfl trivial rfl rfl rfl) (Av _))
def sX {U:Type}(x:Fz × List U):KL U:=⟨x.2,x.1⟩
theorem zW:Rea Tryd.prog 77 2 (fun _:Lit=>True) iP:=
 Rea.map (nc Tryd.underlying77 krf (iK rfl krf (kU Tryd.underlying3) (iK rfl krf (vK Tryd.underlying4) m9)))
  (fun x:Int × Bool × Unit=>⟨x.1,x.2.1⟩) (fun _ _=>trivial) (fun x j hj=>match j,hj with|0,_=>rfl|1,_=>rfl)
theorem zX:Rea Tryd.prog 73 1 (fun _:KL Lit=>True) (fun x _=>ao x):=
 Rea.map (qm Tryd.underlying73 krf omg zW) sX (fun _ _=>trivial) (fun x j hj=>rfl)
theorem zY:Rea Tryd.prog 75 2 (fun _:Rule=>True) bB:=by
 have h:=nc (n:=2) Tryd.underlying75 krf (iK rfl (m:=1) krf (kU Tryd.underlying3) (iK rfl (m:=1) krf zX m9))
 exact h.map (fun x=>⟨x.1,x.2.1⟩) (fun _ _=>trivial) (fun x j hj=>match j,hj with|0,_=>rfl|1,_=>rfl)
theorem zZ:Rea Tryd.prog 22 1 (fun _:KL Rule=>True) (fun x _=>ad x):=
 Rea.map (qm Tryd.underlying22 krf omg zY) sX (fun _ _=>trivial) (fun x j hj=>rfl)
theorem z1:Rea Tryd.prog 24 2 (fun _:Prg=>True) (fun p=>nth [.int .i64 p.atoms,ad p.rules]):=by
 have h:=nc (n:=2) Tryd.underlying24 krf (iK rfl (m:=1) krf (kU Tryd.underlying3) (iK rfl (m:=1) krf zZ m9))
 exact h.map (fun x=>⟨x.1,x.2.1⟩) (fun _ _=>trivial) (fun x j hj=>match j,hj with|0,_=>rfl|1,_=>rfl)
theorem z2:Arg Tryd.prog 24 (fun _:Prg=>True) au:=vP Tryd.underlying24 z1
def sY (n:Int):AV:=.int .i64 n
theorem z3:Arg Tryd.prog 3 (fun _:Int=>True) sY:=
 vO Tryd.underlying3 (Rea.map (kU Tryd.underlying3) (fun n:Int=>n) (fun _ _=>trivial) (fun _ _ _=>rfl))
structure OrdAll (p:Prg)(n left:Nat)(L:List Nat):Prop where
 is:∀i,i<L.length->∃A,A<n/\L.getD i 0=az p A
 cov:∀a,left.testBit a=true->∃i,i<L.length/\(L.getD i 0).testBit a=true
 sub:∀i a,i<L.length->(L.getD i 0).testBit a=true->left.testBit a=true
 ord:∀i j a b,i<j->j<L.length->(L.getD i 0).testBit a=true->(L.getD j 0).testBit b=true->¬Reach p a b
theorem z4 {s:Nat}:∀a,a∈aU s->0<=a/\a<24/\s.testBit a.toNat=true:=by
 intro a ha
 obtain⟨b,h1,rfl⟩:=List.mem_map.1 ha
 obtain⟨h2,h3⟩:=Tb.mem_memN.1 h1
 exact⟨omg,omg,by simpa using h3⟩
structure CompOk (p:Prg)(n:Nat)(L:List Nat)(v:List Int):Prop where
 len:v.length=n
 at_:∀a,a<n->0<=v.getD a 0/\v.getD a 0<L.length
 up:∀a b,a<n->Reach p a b->b<n/\v.getD b 0<=v.getD a 0
 same:∀a b,a<n->(L.getD (v.getD a 0).toNat 0).testBit b=true->Reach p a b
def itB (D:List Bool->List Bool × Bool):Nat->List Bool->List Bool
 |0,s=>s
 |k+1,s=>if (D s).2 then itB D k (D s).1 else s
structure ItOk (D:List Bool->List Bool × Bool)(n:Nat)(T:List Bool)(x:List Bool × Bool):Prop where
 len:x.1.length=n
 go:x.2=true->∃f,co x.1<f/\itB D f x.1=T
 stop:x.2=false->x.1=T
theorem z5 {D:List Bool->List Bool × Bool}{n:Nat}{T s:List Bool}(hD:HgS (s,false) (D s))(h:ItOk D n T (s,true)):ItOk D n T (D s)/\(if (D s).2 then co (D s).1+1 else 0)<co s+1:=by
 obtain⟨h1,h2,_⟩:=h
 obtain⟨f,f1,f2⟩:=h2 rfl
 have f1:co s<f:=f1
 have h1:s.length=n:=h1
 obtain⟨c1,c2,c3,c4,c5,c6⟩:=hD
 obtain⟨f,rfl⟩:∃k,f=k+1:=⟨f-1,omg⟩
 have f3:(if (D s).2 then itB D f (D s).1 else s)=T:=f2
 refine⟨⟨c1.trans h1,fun h=>⟨f,?_,?_⟩,fun h=>?_⟩,?_⟩
 ·have:co (D s).1<co s:=c5 h rfl
  omega
 ·rw[if_pos h] at f3
  exact f3
 ·rw[if_neg (by rw[h];decide)] at f3
  exact(c6 h).trans f3
 ·split
  ·rename_i h
   have:co (D s).1<co s:=c5 h rfl
   omega
  ·omega
def foL (set out:List Bool)(l:Lit):Bool:=l.neg && !set.getD l.atom.toNat false || !l.neg&&out.getD l.atom.toNat false
def foB (set out:List Bool)(r:Rule)(k:Nat):Bool:= !out.getD r.head.toNat false&&(r.body.l.take k).all (foL set out)
def foU (set:List Bool)(x:List Bool × Bool)(r:Rule):List Bool × Bool:=if foB set x.1 r r.body.l.length then(x.1.set r.head.toNat true,true) else x
def foD (p:Prg)(set s:List Bool):List Bool × Bool:=p.rules.l.foldl (foU set) (s,false)
def foR (p:Prg)(set:List Bool)(n:Nat):List Bool:=itB (foD p set) (n+1) (List.replicate n false)
theorem sZ {set:List Bool}{x:List Bool × Bool}{r:Rule}(h:r.head.toNat<x.1.length):HgS x (foU set x r):=by
 unfold foU
 by_cases hb:foB set x.1 r r.body.l.length=true
 ·rw[if_pos hb]
  have h0:x.1.getD r.head.toNat false=false:=by
   unfold foB at hb
   rw[Bool.and_eq_true] at hb
   simpa using hb.1
  have:=zw h h0
  exact⟨List.length_set,fun k hk=>zx hk,fun _=>rfl,by show co (x.1.set _ true)<=_;omega,fun _ _=>by show co (x.1.set _ true)<_;omega,fun h=>by cases h⟩
 ·rw[if_neg hb];exact HgS.refl x
theorem ia {set:List Bool}:∀{l:List Rule} {x:List Bool × Bool},(∀r,r∈l->r.head.toNat<x.1.length)->HgS x (l.foldl (foU set) x)
 |[],x,_=>HgS.refl x
 |r::l,x,h=>by
  have h1:=sZ (set:=set) (x:=x) (h r List.mem_cons_self)
  exact h1.trans (ia (fun q hq=>by rw[h1.len];exact h q (List.mem_cons_of_mem _ hq)))
theorem kd {D:List Bool->List Bool × Bool}{n:Nat}(hD:∀s,s.length=n->(D s).1.length=n):∀{k:Nat} {s:List Bool},s.length=n->(itB D k s).length=n
 |0,_,h=>h
 |k+1,s,h=>by
  show(if (D s).2 then itB D k (D s).1 else s).length=n
  split
  ·exact kd hD (hD s h)
  ·exact h
theorem z6 {set out:List Bool}{r:Rule}{k:Nat}(h:k<r.body.l.length):foB set out r (k+1)=(foB set out r k&&foL set out (r.body.l.getD k default)):=by
 unfold foB
 have e:r.body.l.getD k default=r.body.l[k]:=by rw[List.getD_eq_getElem?_getD,List.getElem?_eq_getElem h];rfl
 rw[List.take_add_one,List.all_append,List.getElem?_eq_getElem h,e]
 show(_&&(_&&(foL set out r.body.l[k]&&true)))=_
 rw[Bool.and_true,Bool.and_assoc]
theorem z7 (R:Res)(p:Prg)(set:List Bool)(n:Nat)(hn:0<n/\n<=1000)(hset:set.length=n)(hpa:p.atoms=n)(hpl:p.rules.l.length<1000000)(hr:∀r,r∈p.rules.l->cu n r)(g:R.σ):Does Tryd.prog R 38 [au p,bT set] [] g (.ret (.ow true 0 n 1)) [.cells false (n*1) (ap (foR p set n))] g:=by
 have hroom:ax=140737488355328:=rfl
 have hrh:∀r,r∈p.rules.l->r.head.toNat<n:=fun r h=>by have:=(hr r h).2;omega
 have hDl:∀s,s.length=n->HgS (s,false) (foD p set s):=fun s hs=>ia (fun r h=>by rw[show(s,false).1.length=n from hs];exact hrh r h)
 have hRl:(foR p set n).length=n:=kd (fun s hs=>(hDl s hs).len.trans hs) List.length_replicate
 refine spW (nt:=77) (rs:=[.tmp 4]) (k0:=0) ?_
 refine vcR [] (lkL [(0,[1,2]),(1,[1,2,5]),(2,[1,2,5,6])]) (fun _=>[]) (fun Q=>1<=2/\0<=p.atoms/\p.atoms<=p.atoms/\p.atoms<=140737488355328/\Int.toNat p.atoms*1<=ax/\WpC Tryd.prog R 77 0 38 [1,1,0,1,0] Q [Kont.blk 0,Kont.seq [1,1,1]] (St.mk [(1,fz Fz.auto 1 (List.length set) fun i x=>ap set i),(2,ref 0 0),(5,sl 1 0 (Int.toNat p.atoms) (Int.toNat p.atoms) true 1),(6,AV.bool true)] [cells false 2 (nth [int i64 p.atoms,ad p.rules]),cells false (Int.toNat p.atoms*1) fun j=>AV.bool false] g)) ⟨omg,omg,omg,omg,omg,?_⟩
 rw[show p.atoms.toNat=n by omega]
 have hs0:(List.replicate n false).length=n:=List.length_replicate
 refine br (toL (s':=⟨[(1,bT set),(2,.ref 0 0),(5,.ow true 1 n 1),(6,.bool true)],[.cells false 2 (nth [.int .i64 p.atoms,ad p.rules]),.cells false (n*1) (ap (List.replicate n false))],g⟩) (h1:=?_) (h2:=?_)) ?_
 ·exact⟨Av _,Av _,AE omg,Av _,trivial⟩
 ·exact⟨Ay _,⟨rfl,Nat.le_refl _,fun j _=>Aw yR.symm⟩,trivial⟩
 refine(aZ krf (fun (x:List Bool × Bool)=>⟨[(1,fz Fz.auto 1 (set.length) fun (i x:Nat)=>ap set i),(2,ref 0 0),(5,ow true 1 n 1),(6,.bool x.2)],[.cells false 2 (nth [.int .i64 p.atoms,ad p.rules]),.cells false (n*1) (ap x.1)],g⟩) (fun (x:List Bool × Bool)=>(ItOk (foD p set) n (foR p set n) x)) (fun (x:List Bool × Bool)=>(if x.2 then co x.1+1 else 0)) (List.replicate n false,true) (aV ⟨Av _,Av _,Av _,Av _,trivial⟩ rfl rfl) ?_ (fun x hi=>?_))
 ·exact⟨hs0,fun _=>⟨n+1,Nat.lt_succ_of_le (by have:=List.count_le_length (a:=false) (l:=List.replicate n false);rw[hs0] at this;exact this),rfl⟩,fun h=>by cases h⟩
 ·obtain⟨s,ch⟩:=x
  have hok:=hi
  obtain⟨h1,h2,h3⟩:=hi
  simp only at h1 h2 h3
  cases ch with
  |false=>
   rw[h3 rfl]
   refine vcR [[1,1,0,1,0,0,0,1,0]] (lkL [(3,[1,2,5,15])]) (fun _=>[]) (fun Q=>(fun (u1:St R.σ)=>(false=true->WpC Tryd.prog R 77 0 38 [1,1,0,1,0,0,0,1,0] Q [Kont.seq [1,1,0,1,0,0,1]] u1)/\(false=false->Q (AEx.exit 0) u1)) (St.mk [(1,fz Fz.auto 1 (List.length set) fun i x=>ap set i),(2,ref 0 0),(5,ow true 1 n 1),(15,AV.bool false)] [cells false 2 (nth [int i64 p.atoms,ad p.rules]),cells false (n*1) fun a=>ap (foR p set n) a] g)) ⟨fun h=>(nomatch h),fun _=>?_⟩
   refine⟨_,AH _,vcR [] (lkL [(18,[4])]) (fun _=>[]) (fun (Q:AEx->St R.σ->Prop)=>Q AEx.ret (St.mk [(4,ow true 1 n 1)] [cells false 2 (nth [int i64 p.atoms,ad p.rules]),cells false (n*1) fun (a:Nat)=>ap (foR p set n) a] g)) (?_)⟩
   show a9 Tryd.prog R 0 _ _ _ _ .ret _
   exact bY (.ow true 1 n 1) _ rfl trivial (toS (s':=⟨[(0,.ow true 0 n 1)],[.cells false (n*1) (ap (foR p set n))],g⟩) [1] 2 (hob:=⟨Ay _,trivial⟩))
  |true=>
   have hnx:=z5 (hDl s h1) hok
   refine vcR [[1,1,0,1,0,0,0,1,1]] (lkL [(3,[1,2,5,15]),(4,[1,2,5,6]),(5,[1,2,5,6,7])]) (fun _=>[]) (fun Q=>(fun (u1:List AObj)=>(fun (u2:AV)=>(true=true->WpC Tryd.prog R 77 0 38 [1,1,0,1,0,0,1,0,1,1,0] Q [Kont.blk 2,Kont.blk 1] (St.mk [(1,u2),(2,ref 0 0),(5,ow true 1 n 1),(6,AV.bool false),(7,int i64 0)] u1 g))/\(true=false->WpC Tryd.prog R 77 0 38 [1,1,0,1,0,0,0,1,1] Q [Kont.seq [1,1,0,1,0,0,1]] (St.mk [(1,u2),(2,ref 0 0),(5,ow true 1 n 1),(15,AV.bool true)] u1 g))) (fz Fz.auto 1 (List.length set) fun i x=>ap set i)) ([cells false 2 (nth [int i64 p.atoms,ad p.rules]),cells false (n*1) fun a=>ap s a])) ⟨fun _=>?_,fun h=>(nomatch h)⟩
   refine(aZ krf (fun (i:Nat)=>⟨[(1,fz Fz.auto 1 (set.length) fun (i x:Nat)=>ap set i),(2,ref 0 0),(5,ow true 1 n 1),(6,.bool ((p.rules.l.take i).foldl (foU set) (s,false)).2),(7,.int .i64 i)],[.cells false 2 (nth [.int .i64 p.atoms,ad p.rules]),.cells false (n*1) (ap ((p.rules.l.take i).foldl (foU set) (s,false)).1)],g⟩) (fun (i:Nat)=>(i<=p.rules.l.length)) (fun (i:Nat)=>(p.rules.l.length-i)) 0 (aV ⟨Av _,Av _,Av _,Av _,(Aw krf),trivial⟩ rfl rfl) ?_ (fun i hi=>?_))
   ·exact Nat.zero_le _
   ·rcases Nat.lt_or_ge i p.rules.l.length with hlt|hge
    ·have hm:=hr _ (fV hlt)
     have hm1:=hm.1
     have hm2:=hm.2
     have hbl:=hm1.1
     have hst:=jV (foU set) (s,false) p.rules.l default hlt
     have hyl:=(ia (set:=set) (l:=p.rules.l.take i) (x:=(s,false)) (fun r h=>by rw[show(s,false).1.length=n from h1];exact hrh r (List.mem_of_mem_take h))).len
     obtain⟨y,hy⟩:∃y,(p.rules.l.take i).foldl (foU set) (s,false)=y:=⟨_,rfl⟩
     rw[hy] at hst hyl ⊢
     have hyl:y.1.length=n:=hyl.trans h1
     obtain⟨t,b⟩:=y
     have hyl:t.length=n:=hyl
     have hB0:foB set t (p.rules.l.getD i default) 0 = !t.getD (p.rules.l.getD i default).head.toNat false:=Bool.and_true _
     refine vcR [] (lkL [(6,[1,2,5,6,7,20]),(8,[1,2,5,6,7,8]),(9,[1,2,5,6,7,8,9]),(10,[1,2,5,6,7,8,9,10])]) (lkL [(8,[(6,ROrc.val (Orc.obj (nth [int i64 (List.getD p.rules.l i default).head,ao (List.getD p.rules.l i default).body])))])]) (fun Q=>(fun (u1:Rule)=>(fun (u2:Int)=>(fun (u3:Int)=>(fun (u4:List AV)=>(fun (u5:AV)=>(fun (u6:AObj)=>2<=2/\(decide (u3<u2)=true->2<=2/\(0<=u3/\u3<u2)/\2<=2/\2<=2/\(∀(c:Nat),c<2->nth u4 c=ah (nth [int i64 0,fz Fz.nil 0 0 fun x x_1=>any]) 0 2 (List.brecOn (motive:=fun (x:List AV)=>Nat->AV) u4 nth._f) c)/\1<=2/\(0<=u1.head/\u1.head<(↑n:Int))/\Int.toNat u1.head+1<=n*1/\WpC Tryd.prog R 77 0 38 [1,1,0,1,0,0,1,0,1,1,0,0,1,0,0,1,1,0,1,0] Q [Kont.blk 4,Kont.seq [1,1,0,1,0,0,1,0,1,1,0,0,1,0,0,1,1,1],Kont.blk 3,Kont.seq [1,1,0,1,0,0,1,0,1,1,0,0,1,1]] (St.mk [(1,u5),(2,ref 0 0),(5,ow true 1 n 1),(6,AV.bool b),(7,int i64 u3),(8,ref 2 0),(9,AV.bool !List.getD t (Int.toNat u1.head) false),(10,int i64 0)] [u6,cells false (n*1) fun a=>ap t a,cells false 2 (nth u4)] g))/\(decide (u3<u2)=false->Q (AEx.exit 2) (St.mk [(1,u5),(2,ref 0 0),(5,ow true 1 n 1),(6,AV.bool b),(7,int i64 u3),(20,AV.bool (decide (u3<u2)))] [u6,cells false (n*1) fun a=>ap t a] g))) (cells false 2 (nth [int i64 p.atoms,ad p.rules]))) (fz Fz.auto 1 (List.length set) fun i x=>ap set i)) ([int i64 u1.head,ao u1.body])) ((↑i:Int))) ((↑(List.length p.rules.l):Int))) (List.getD p.rules.l i default)) ⟨omg,fun c1=>have c1:(↑i:Int)<(↑(List.length p.rules.l):Int):=(of_decide_eq_true c1);⟨omg,omg,omg,omg,(fun c hc=>match c,hc with|0,_=>krf|1,_=>krf ),omg,omg,omg,?_⟩,fun c1=>have c1:¬(↑i:Int)<(↑(List.length p.rules.l):Int):=(of_decide_eq_false c1);?_⟩
     ·refine(aZ krf (fun (k:Nat)=>⟨[(1,fz Fz.auto 1 (set.length) fun (i x:Nat)=>ap set i),(2,ref 0 0),(5,ow true 1 n 1),(6,AV.bool b),(7,int i64 (i:Int)),(8,ref 2 0),(9,.bool (foB set t (p.rules.l.getD i default) k)),(10,.int .i64 k)],[cells false 2 (nth [int i64 p.atoms,ad p.rules]),cells false (n*1) fun (a:Nat)=>ap t a,cells false 2 (nth [int i64 (p.rules.l.getD i default).head,ao (p.rules.l.getD i default).body])],g⟩) (fun (k:Nat)=>(k<=(p.rules.l.getD i default).body.l.length)) (fun (k:Nat)=>((p.rules.l.getD i default).body.l.length-k)) 0 (aV ⟨Av _,Av _,Av _,Av _,Av _,Av _,(Aw ?_),(Aw krf),trivial⟩ rfl rfl) ?_ (fun k hi=>?_))
      ·show AV.bool _=AV.bool _
       rw[hB0]
      ·exact Nat.zero_le _
      ·rcases Nat.lt_or_ge k (p.rules.l.getD i default).body.l.length with hk|hk
       ·have hml:=hm1.2 _ (bZ (p.rules.l.getD i default).body.l default hk)
        have hBs:=z6 (set:=set) (out:=t) (r:=p.rules.l.getD i default) hk
        refine vcR [] (lkL [(11,[1,2,5,6,7,8,9,10,38]),(13,[1,2,5,6,7,8,9,10,11]),(14,[1,2,5,6,7,8,9,10]),(12,[1,2,5,6,7,8,9,10])]) (lkL [(13,[(6,ROrc.val (Orc.obj (nth [int i64 (List.getD (List.getD p.rules.l i default).body.l k default).atom,AV.bool (List.getD (List.getD p.rules.l i default).body.l k default).neg])))])]) (fun Q=>(fun (u1:Lit)=>(fun (u2:Rule)=>(fun (u3:Bool)=>(fun (u4:Int)=>(fun (u5:Int)=>(fun (u6:Bool)=>(fun (u7:AV)=>(fun (u8:List AV)=>(fun (u9:AObj)=>(fun (u10:AObj)=>2<=2/\(decide (u5<u4)=true->2<=2/\(0<=u5/\u5<u4)/\2<=2/\2<=2/\(∀(c:Nat),c<2->nth u8 c=ah (nth [int i64 0,AV.bool false]) 0 2 (List.brecOn (motive:=fun (x:List AV)=>Nat->AV) u8 nth._f) c)/\(u6=true->2<=2)/\((u6&&u1.neg)=true->1<=2)/\((u6&&u1.neg)=true->0<=u1.atom/\u1.atom<(↑(List.length set):Int))/\((u6&&u1.neg)=true->1<=1)/\((u6 && !u3)=true->2<=2)/\((u6 && !u3 && !u1.neg)=true->1<=2)/\((u6 && !u3 && !u1.neg)=true->0<=u1.atom/\u1.atom<(↑n:Int))/\((u6 && !u3 && !u1.neg)=true->Int.toNat u1.atom+1<=n*1)/\(-9223372036854775808<=u5+1/\u5+1<=9223372036854775807)/\Q AEx.normal (St.mk [(1,u7),(2,ref 0 0),(5,ow true 1 n 1),(6,AV.bool b),(7,int i64 (↑i:Int)),(8,ref 2 0),(9,AV.bool (bif u6 then bif u3 then true else bif !u1.neg then List.getD t (Int.toNat u1.atom) false else false else false)),(10,int i64 (u5+1))] [u9,cells false (n*1) fun a=>ap t a,u10,cells false 2 (nth u8)] g))/\(decide (u5<u4)=false->Q (AEx.exit 4) (St.mk [(1,u7),(2,ref 0 0),(5,ow true 1 n 1),(6,AV.bool b),(7,int i64 (↑i:Int)),(8,ref 2 0),(9,AV.bool u6),(10,int i64 u5),(38,AV.bool (decide (u5<u4)))] [u9,cells false (n*1) fun a=>ap t a,u10] g))) (cells false 2 (nth [int i64 u2.head,ao u2.body]))) (cells false 2 (nth [int i64 p.atoms,ad p.rules]))) ([int i64 u1.atom,AV.bool u1.neg])) (fz Fz.auto 1 (List.length set) fun i x=>ap set i)) (foB set t u2 k)) ((↑k:Int))) ((↑(List.length u2.body.l):Int))) (bif u1.neg then !List.getD set (Int.toNat u1.atom) false else false)) (List.getD p.rules.l i default)) (List.getD (List.getD p.rules.l i default).body.l k default)) ⟨omg,fun c1=>have c1:(↑k:Int)<(↑(List.length (List.getD p.rules.l i default).body.l):Int):=(of_decide_eq_true c1);⟨omg,omg,omg,omg,(fun c hc=>match c,hc with|0,_=>krf|1,_=>krf ),omg,omg,omg,omg,omg,omg,omg,omg,omg,?_⟩,fun c1=>have c1:¬(↑k:Int)<(↑(List.length (List.getD p.rules.l i default).body.l):Int):=(of_decide_eq_false c1);?_⟩
        ·refine(aL (k+1) (toS [0,1,2] 4 (hfr:=⟨Av _,Av _,Av _,Av _,Av _,Av _,Aw ?_,Av _,trivial⟩) (hob:=⟨⟨rfl,Nat.le_refl _,fun j hj=>match j,hj with|0,_=>(Av _)|1,_=>(Av _) ⟩,?_,⟨rfl,Nat.le_refl _,fun j hj=>match j,hj with|0,_=>(Av _)|1,_=>(Av _) ⟩,trivial⟩)) ?_ ?_)
         ·show AV.bool _=AV.bool _
          rw[hBs]
          unfold foL
          cases foB set t (p.rules.l.getD i default) k <;> cases ((p.rules.l.getD i default).body.l.getD k default).neg <;> simp
         ·exact⟨rfl,Nat.le_refl _,fun j _=>Aw rfl⟩
         ·omega
         ·omega
        ·exfalso;omega
       ·have hke:k=(p.rules.l.getD i default).body.l.length:=by omega
        subst hke
        have hbb:decide (((p.rules.l.getD i default).body.l.length:Int)<((p.rules.l.getD i default).body.l.length:Int))=false:=decide_eq_false omg
        have hst:(p.rules.l.take (i+1)).foldl (foU set) (s,false)=if foB set t (p.rules.l.getD i default) (p.rules.l.getD i default).body.l.length then(t.set (p.rules.l.getD i default).head.toNat true,true) else(t,b):=hst
        refine vcR [[1,1,0,1,0,0,1,0,1,1,0,0,1,0,0,1,1,0,1,0,0,0,1,0]] (lkL [(11,[1,2,5,6,7,8,9,10,38])]) (fun _=>[]) (fun Q=>(fun (u1:Int)=>(fun (u2:St R.σ)=>2<=2/\(decide (u1<u1)=true->WpC Tryd.prog R 77 0 38 [1,1,0,1,0,0,1,0,1,1,0,0,1,0,0,1,1,0,1,0,0,0,1,0] Q [Kont.seq [1,1,0,1,0,0,1,0,1,1,0,0,1,0,0,1,1,0,1,0,0,1]] u2)/\(decide (u1<u1)=false->Q (AEx.exit 4) u2)) (St.mk [(1,fz Fz.auto 1 (List.length set) fun i x=>ap set i),(2,ref 0 0),(5,ow true 1 n 1),(6,AV.bool b),(7,int i64 (↑i:Int)),(8,ref 2 0),(9,AV.bool (foB set t (List.getD p.rules.l i default) (List.length (List.getD p.rules.l i default).body.l))),(10,int i64 u1),(38,AV.bool (decide (u1<u1)))] [cells false 2 (nth [int i64 p.atoms,ad p.rules]),cells false (n*1) fun a=>ap t a,cells false 2 (nth [int i64 (List.getD p.rules.l i default).head,ao (List.getD p.rules.l i default).body])] g)) ((↑(List.length (List.getD p.rules.l i default).body.l):Int))) ⟨omg,fun hcc=>(nomatch (hbb.symm.trans hcc)),fun _=>?_⟩
        refine⟨_,AH _,vcR [] (lkL [(15,[1,2,5,6,7,8,71]),(16,[1,2,5,7]),(17,[1,2,5,6,7])]) (fun _=>[]) (fun Q=>(fun (u1:Rule)=>(fun (u2:Bool)=>(fun (u3:AV)=>(fun (u4:AObj)=>(fun (u5:AObj)=>(u2=true->1<=2/\(0<=u1.head/\u1.head<(↑n:Int))/\Int.toNat u1.head+1<=n*1/\Q AEx.normal (St.mk [(1,u3),(2,ref 0 0),(5,ow true 1 n 1),(6,AV.bool true),(7,int i64 (↑i:Int))] [u4,cells false (n*1) (ah (ap t) (Int.toNat u1.head) 1 fun x=>AV.bool true),u5] g))/\(u2=false->Q AEx.normal (St.mk [(1,u3),(2,ref 0 0),(5,ow true 1 n 1),(6,AV.bool b),(7,int i64 (↑i:Int)),(8,ref 2 0),(71,AV.bool u2)] [u4,cells false (n*1) fun a=>ap t a,u5] g))) (cells false 2 (nth [int i64 u1.head,ao u1.body]))) (cells false 2 (nth [int i64 p.atoms,ad p.rules]))) (fz Fz.auto 1 (List.length set) fun i x=>ap set i)) (foB set t u1 (List.length u1.body.l))) (List.getD p.rules.l i default)) ⟨fun c1=>⟨omg,omg,omg,?_⟩,fun c1=>?_⟩⟩
        ·rw[if_pos c1] at hst
         refine vcR [] (lkL [(7,[1,2,5,6,7])]) (fun _=>[]) (fun Q=>(fun (u1:Rule)=>(-9223372036854775808<=(↑i:Int)+1/\(↑i:Int)+1<=9223372036854775807)/\Q AEx.normal (St.mk [(1,fz Fz.auto 1 (List.length set) fun i x=>ap set i),(2,ref 0 0),(5,ow true 1 n 1),(6,AV.bool true),(7,int i64 ((↑i:Int)+1))] [cells false 2 (nth [int i64 p.atoms,ad p.rules]),cells false (n*1) (ah (ap t) (Int.toNat u1.head) 1 fun x=>AV.bool true),cells false 2 (nth [int i64 u1.head,ao u1.body])] g)) (List.getD p.rules.l i default)) ⟨omg,?_⟩
         refine(aL (i+1) (toS [0,1] 3 (hfr:=⟨Av _,Av _,Av _,Aw ?_,Av _,trivial⟩) (hob:=⟨⟨rfl,Nat.le_refl _,fun j hj=>match j,hj with|0,_=>(Av _)|1,_=>(Av _) ⟩,?_,trivial⟩)) ?_ ?_)
         ·show AV.bool _=AV.bool _
          rw[hst]
         ·exact⟨rfl,Nat.le_refl _,fun j _=>by
           rw[hst]
           exact Aw (f0 omg)⟩
         ·omega
         ·omega
        ·rw[if_neg (by rw[c1];decide)] at hst
         refine vcR [] (lkL [(7,[1,2,5,6,7])]) (fun _=>[]) (fun Q=>(-9223372036854775808<=(↑i:Int)+1/\(↑i:Int)+1<=9223372036854775807)/\Q AEx.normal (St.mk [(1,fz Fz.auto 1 (List.length set) fun i x=>ap set i),(2,ref 0 0),(5,ow true 1 n 1),(6,AV.bool b),(7,int i64 ((↑i:Int)+1))] [cells false 2 (nth [int i64 p.atoms,ad p.rules]),cells false (n*1) fun a=>ap t a,cells false 2 (nth [int i64 (List.getD p.rules.l i default).head,ao (List.getD p.rules.l i default).body])] g)) ⟨omg,?_⟩
         refine(aL (i+1) (toS [0,1] 3 (hfr:=⟨Av _,Av _,Av _,Aw ?_,Av _,trivial⟩) (hob:=⟨⟨rfl,Nat.le_refl _,fun j hj=>match j,hj with|0,_=>(Av _)|1,_=>(Av _) ⟩,?_,trivial⟩)) ?_ ?_)
         ·show AV.bool _=AV.bool _
          rw[hst]
         ·exact⟨rfl,Nat.le_refl _,fun j _=>by
           rw[hst]
           exact Aw (rfl)⟩
         ·omega
         ·omega
     ·exfalso;omega
    ·have hie:i=p.rules.l.length:=by omega
     subst hie
     rw[List.take_length]
     have hbb:decide ((p.rules.l.length:Int)<(p.rules.l.length:Int))=false:=decide_eq_false omg
     refine vcR [[1,1,0,1,0,0,1,0,1,1,0,0,0,1,0]] (lkL [(6,[1,2,5,6,7,20])]) (fun _=>[]) (fun Q=>(fun (u1:Int)=>(fun (u2:St R.σ)=>2<=2/\(decide (u1<u1)=true->WpC Tryd.prog R 77 0 38 [1,1,0,1,0,0,1,0,1,1,0,0,0,1,0] Q [Kont.seq [1,1,0,1,0,0,1,0,1,1,0,0,1]] u2)/\(decide (u1<u1)=false->Q (AEx.exit 2) u2)) (St.mk [(1,fz Fz.auto 1 (List.length set) fun i x=>ap set i),(2,ref 0 0),(5,ow true 1 n 1),(6,AV.bool (List.foldl (foU set) (s,false) p.rules.l).snd),(7,int i64 u1),(20,AV.bool (decide (u1<u1)))] [cells false 2 (nth [int i64 p.atoms,ad p.rules]),cells false (n*1) fun a=>ap (List.foldl (foU set) (s,false) p.rules.l).fst a] g)) ((↑(List.length p.rules.l):Int))) ⟨omg,fun hcc=>(nomatch (hbb.symm.trans hcc)),fun _=>?_⟩
     refine⟨_,AH _,(aL (foD p set s) (toL (h1:=⟨Av _,Av _,Av _,(Aw krf),trivial⟩)) ?_ ?_)⟩
     ·exact hnx.1
     ·exact hnx.2
def ib (l:List Rule)(set:Nat->Bool)(m:Nat->Bool):Prop:=∀r,r∈l->(∀y,y∈r.body.l->(y.neg=true->set y.atom.toNat=false)/\(y.neg=false->m y.atom.toNat=true))->m r.head.toNat=true
theorem z8 {set:Nat->Bool}{s o:Nat}{r:Rule}{l:List Rule}{m:Nat->Bool}(hs:∀j,s.testBit j=set j)(hm:ib l set m)(hr:r∈l)(ho:∀j,o.testBit j=true->m j=true):∀j,(cX s o r).testBit j=true->m j=true:=by
 intro j hj
 unfold cX at hj
 split at hj
 ·exact ho j hj
 ·rename_i hn
  rw[eR,Bool.or_eq_true,decide_eq_true_eq] at hj
  rcases hj with hj|rfl
  ·exact ho j hj
  ·refine hm r hr (fun y hy=>?_)
   have hy2:dH s o y=false:=by
    cases hb:dH s o y with
    |false=>rfl
    |true=>exact absurd (List.any_eq_true.2 ⟨y,hy,hb⟩) hn
   unfold dH at hy2
   refine⟨fun h=>?_,fun h=>?_⟩
   ·rw[if_pos h,hs] at hy2;exact hy2
   ·rw[if_neg (by rw[h];decide),Bool.not_eq_false'] at hy2
    exact ho _ hy2
theorem s4 {set:Nat->Bool}{s:Nat}{m:Nat->Bool}{l:List Rule}(hs:∀j,s.testBit j=set j)(hm:ib l set m):∀{l':List Rule} {o:Nat},(∀r,r∈l'->r∈l)->(∀j,o.testBit j=true->m j=true)->∀j,(a8 l' s o).testBit j=true->m j=true
 |[],_,_,ho=>ho
 |r::l',o,hl,ho=>by
  show ∀j,(a8 l' s (cX s o r)).testBit j=true->m j=true
  exact s4 hs hm (fun q hq=>hl q (List.mem_cons_of_mem _ hq)) (z8 hs hm (hl r List.mem_cons_self) ho)
theorem s5 {set:Nat->Bool}{s:Nat}{m:Nat->Bool}{l:List Rule}(hs:∀j,s.testBit j=set j)(hm:ib l set m):∀{n o:Nat},(∀j,o.testBit j=true->m j=true)->∀j,(ed l s n o).testBit j=true->m j=true
 |0,_,ho=>ho
 |n+1,o,ho=>by
  show ∀j,(if a8 l s o=o then o else ed l s n (a8 l s o)).testBit j=true->m j=true
  split
  ·exact ho
  ·exact s5 hs hm (s4 hs hm (fun _ h=>h) ho)
theorem s6 {set:Nat->Bool}{s:Nat}{m:Nat->Bool}{l:List Rule}(hs:∀j,s.testBit j=set j)(hm:ib l set m):∀j,(fol l s).testBit j=true->m j=true:=s5 hs hm (fun j h=>by simp at h)
theorem s7 {s:Nat}{l:List Rule}(hl:∀r,r∈l->aH r):∀{n o:Nat},o<2^24->2^24-o<n->a8 l s (ed l s n o)=ed l s n o/\ed l s n o<2^24
 |0,_,_,h=>absurd h (Nat.not_lt_zero _)
 |n+1,o,ho,h=>by
  show a8 l s (if a8 l s o=o then o else ed l s n (a8 l s o))=(if a8 l s o=o then o else ed l s n (a8 l s o))/\(if a8 l s o=o then o else ed l s n (a8 l s o))<2^24
  split
  ·rename_i e;exact⟨e,ho⟩
  ·rename_i e
   have h1:=nM l s o
   have h2:=nK (s:=s) (o:=o) hl ho
   exact s7 hl h2 omg
theorem s8 {s:Nat}:∀{l:List Rule} {o:Nat},a8 l s o=o->∀r,r∈l->cX s o r=o
 |[],_,_=>fun r hr=>by cases hr
 |r::l,o,h=>by
  have h:a8 l s (cX s o r)=o:=h
  have h1:=nM l s (cX s o r)
  have h2:o<=cX s o r:=q7
  have e:cX s o r=o:=by omega
  rw[e] at h
  intro q hq
  rcases List.mem_cons.1 hq with rfl|hq
  ·exact e
  ·exact s8 h q hq
theorem z9 {set:Nat->Bool}{s:Nat}{l:List Rule}(hl:∀r,r∈l->aH r)(hs:∀j,s.testBit j=set j):ib l set (fun j=>(fol l s).testBit j)/\fol l s<2^24:=by
 obtain⟨h1,h2⟩:=s7 (s:=s) hl (n:=2^24+1) (o:=0) dcd omg
 refine⟨fun r hr hy=>?_,h2⟩
 have h3:=s8 h1 r hr
 have h3:cX s (fol l s) r=fol l s:=h3
 unfold cX at h3
 rw[if_neg] at h3
 ·show(fol l s).testBit r.head.toNat=true
  rw[<-h3,eR,decide_eq_true rfl,Bool.or_true]
 ·intro hn
  obtain⟨y,h4,h5⟩:=List.any_eq_true.1 hn
  obtain⟨h6,h7⟩:=hy y h4
  unfold dH at h5
  cases hng:y.neg with
  |true=>rw[if_pos hng,hs,h6 hng] at h5;cases h5
  |false=>
   have h8:(fol l s).testBit y.atom.toNat=true:=h7 hng
   rw[if_neg (by rw[hng];decide),h8] at h5
   cases h5
theorem s9 {set:List Bool}{l:List Rule}{m:Nat->Bool}(hm:ib l (fun j=>set.getD j false) m):∀{l':List Rule} {x:List Bool × Bool},(∀r,r∈l'->r∈l)->(∀j,x.1.getD j false=true->m j=true)->∀j,(l'.foldl (foU set) x).1.getD j false=true->m j=true
 |[],_,_,h=>h
 |r::l',x,hl,h=>by
  refine s9 hm (l':=l') (x:=foU set x r) (fun q hq=>hl q (List.mem_cons_of_mem _ hq)) (fun j hj=>?_)
  unfold foU at hj
  split at hj
  ·rename_i hb
   rcases zy hj with rfl|hj
   ·refine hm r (hl r List.mem_cons_self) (fun y hy=>?_)
    unfold foB at hb
    rw[Bool.and_eq_true,List.take_length,List.all_eq_true] at hb
    have h1:=hb.2 y hy
    unfold foL at h1
    refine⟨fun hng=>?_,fun hng=>?_⟩
    ·show set.getD y.atom.toNat false=false
     rw[hng] at h1
     simpa using h1
    ·rw[hng] at h1
     exact h _ (by simpa using h1)
   ·exact h j hj
  ·exact h j hj
theorem ta {D:List Bool->List Bool × Bool}{m:Nat->Bool}(hD:∀s,(∀j,s.getD j false=true->m j=true)->∀j,(D s).1.getD j false=true->m j=true):∀{k:Nat} {s:List Bool},(∀j,s.getD j false=true->m j=true)->∀j,(itB D k s).getD j false=true->m j=true
 |0,_,h=>h
 |k+1,s,h=>by
  show ∀j,(if (D s).2 then itB D k (D s).1 else s).getD j false=true->m j=true
  split
  ·exact ta hD (hD s h)
  ·exact h
theorem tc {D:List Bool->List Bool × Bool}{n:Nat}(hD:∀s,s.length=n->HgS (s,false) (D s)):∀{k:Nat} {s:List Bool},s.length=n->co s<k->(D (itB D k s)).2=false
 |0,_,_,h=>absurd h (Nat.not_lt_zero _)
 |k+1,s,hs,h=>by
  show(D (if (D s).2 then itB D k (D s).1 else s)).2=false
  split
  ·rename_i hc
   have h1:=hD s hs
   have h2:co (D s).1<co s:=h1.less hc rfl
   exact tc hD (h1.len.trans hs) omg
  ·rename_i hc
   cases hb:(D s).2 with
   |false=>rfl
   |true=>exact absurd hb hc
theorem te {set:List Bool}{n:Nat}:∀{l:List Rule} {x:List Bool × Bool},x.1.length=n->(∀r,r∈l->r.head.toNat<n)->(l.foldl (foU set) x).2=false->∀r,r∈l->foB set x.1 r r.body.l.length=false
 |[],_,_,_,_=>fun r hr=>by cases hr
 |r::l,x,hn,hl,h=>by
  have hrn:=hl r List.mem_cons_self
  have h1:=sZ (set:=set) (x:=x) (r:=r) (by rw[hn];exact hrn)
  have hl2:∀q,q∈l->q.head.toNat<n:=fun q hq=>hl q (List.mem_cons_of_mem _ hq)
  have h2:=ia (set:=set) (l:=l) (x:=foU set x r) (fun q hq=>by rw[h1.len,hn];exact hl2 q hq)
  have hy:(foU set x r).2=false:=by
   cases hb:(foU set x r).2 with
   |false=>rfl
   |true=>
    have h3:=h2.ch hb
    have h:(l.foldl (foU set) (foU set x r)).2=false:=h
    rw[h] at h3
    cases h3
  have hs:=h1.same hy
  intro q hq
  rcases List.mem_cons.1 hq with rfl|hq
  ·cases hb:foB set x.1 q q.body.l.length with
   |false=>rfl
   |true=>
    unfold foU at hy
    rw[if_pos hb] at hy
    cases hy
  ·have:=te (x:=foU set x r) (h1.len.trans hn) hl2 h q hq
   rw[hs] at this
   exact this
theorem Aa {p:Prg}{set:List Bool}{n:Nat}(hr:∀r,r∈p.rules.l->r.head.toNat<n):ib p.rules.l (fun j=>set.getD j false) (fun j=>(foR p set n).getD j false):=by
 have hD:∀s,s.length=n->HgS (s,false) (foD p set s):=fun s hs=>ia (fun r h=>by rw[show(s,false).1.length=n from hs];exact hr r h)
 have h0:(List.replicate n false).length=n:=List.length_replicate
 have hst:=tc hD (k:=n+1) h0 (Nat.lt_succ_of_le (by have:=List.count_le_length (a:=false) (l:=List.replicate n false);rw[h0] at this;exact this))
 have hlen:(foR p set n).length=n:=kd (fun s hs=>(hD s hs).len.trans hs) h0
 intro r h hy
 have h1:=te (set:=set) (x:=(foR p set n,false)) hlen hr hst r h
 show(foR p set n).getD r.head.toNat false=true
 cases hb:(foR p set n).getD r.head.toNat false with
 |true=>rfl
 |false=>
  exfalso
  have h1:foB set (foR p set n) r r.body.l.length=false:=h1
  unfold foB at h1
  rw[hb,List.take_length,Bool.not_false,Bool.true_and] at h1
  obtain⟨y,h2,h3⟩:=List.all_eq_false.1 h1
  obtain⟨h4,h5⟩:=hy y h2
  refine h3 ?_
  unfold foL
  cases hng:y.neg with
  |true=>
   have:set.getD y.atom.toNat false=false:=h4 hng
   rw[this]
   rfl
  |false=>
   have:(foR p set n).getD y.atom.toNat false=true:=h5 hng
   rw[this]
   rfl
theorem Ab {p:Prg}{set:List Bool}{n s:Nat}(hr:∀r,r∈p.rules.l->aH r)(hrn:∀r,r∈p.rules.l->r.head.toNat<n)(hs:∀j,s.testBit j=set.getD j false)(j:Nat):(foR p set n).getD j false=(fol p.rules.l s).testBit j:=by
 rw[Bool.eq_iff_iff]
 constructor
 ·intro h
  exact ta (D:=foD p set) (m:=fun j=>(fol p.rules.l s).testBit j) (fun s' h'=>s9 (z9 hr hs).1 (fun _ h=>h) h') (fun k hk=>by
   rw[List.getD_eq_getElem?_getD,List.getElem?_replicate] at hk
   split at hk <;> cases hk) j h
 ·intro h
  exact s6 hs (Aa hrn) j h
theorem Ac (R:Res)(a b:List Bool)(n:Nat)(ha:a.length=n)(hb:b.length=n)(hn:n<1000000)(g:R.σ):Does Tryd.prog R 37 [bT a,bT b] [] g (.ret (.bool (!dL a b n))) [] g:=by
 refine spW (nt:=33) (rs:=[.tmp 4]) (k0:=0) ?_
 refine vcR [] (lkL [(0,[0,1]),(1,[0,1,5])]) (fun _=>[]) (fun (Q:AEx->St R.σ->Prop)=>WpC Tryd.prog R 33 0 37 [1,0,1,0] Q [Kont.blk 0,Kont.seq [1,1]] (St.mk [(0,fz Fz.auto 1 (List.length a) fun (i x:Nat)=>ap a i),(1,fz Fz.auto 1 (List.length b) fun (i x:Nat)=>ap b i),(5,int i64 0)] [] g)) (?_)
 refine(aZ krf (fun (i:Nat)=>⟨[(0,fz Fz.auto 1 (a.length) fun (i x:Nat)=>ap a i),(1,fz Fz.auto 1 (b.length) fun (i x:Nat)=>ap b i),(5,.int .i64 i)],[],g⟩) (fun (i:Nat)=>(i<=n/\dL a b i=false)) (fun (i:Nat)=>(n-i)) 0 (aV ⟨Av _,Av _,(Aw krf),trivial⟩ rfl rfl) ?_ (fun i hi=>?_))
 ·exact⟨Nat.zero_le _,rfl⟩
 ·obtain⟨h2,h3⟩:=hi
  rcases Nat.lt_or_ge i n with hlt|hge
  ·refine vcR [] (lkL [(2,[0,1,5,16]),(4,[0,1,5,27]),(5,[4]),(3,[0,1,5])]) (fun _=>[]) (fun Q=>(fun (u1:Bool)=>(fun (u2:Int)=>(fun (u3:AV)=>(fun (u4:AV)=>(u1=true->Flw Tryd.prog/\(0<=u2/\u2<(↑(List.length a):Int))/\1<=1/\(0<=u2/\u2<(↑(List.length b):Int))/\1<=1/\((!List.getD a i false==List.getD b i false)=true->Q AEx.ret (St.mk [(4,AV.bool false)] [] g))/\((!List.getD a i false==List.getD b i false)=false->(-9223372036854775808<=u2+1/\u2+1<=9223372036854775807)/\Q AEx.normal (St.mk [(0,u3),(1,u4),(5,int i64 (u2+1))] [] g)))/\(u1=false->Q (AEx.exit 0) (St.mk [(0,u3),(1,u4),(5,int i64 u2),(16,AV.bool u1)] [] g))) (fz Fz.auto 1 (List.length b) fun i x=>ap b i)) (fz Fz.auto 1 (List.length a) fun i x=>ap a i)) ((↑i:Int))) (bif decide ((↑i:Int)<(↑(List.length a):Int)) then(↑(List.length a):Int)==(↑(List.length b):Int) else false)) ⟨fun c1=>have c1:(↑i:Int)<(↑(List.length a):Int)/\(↑(List.length a):Int)=(↑(List.length b):Int):=⟨(of_decide_eq_true (cq c1).1),(beq_iff_eq.mp (cq c1).2)⟩;⟨krf,omg,omg,omg,omg,fun c2=>have c2:(List.getD a i false==List.getD b i false)=false:=((Bool.not_eq_true' _).mp c2);?_,fun c2=>have c2:(List.getD a i false==List.getD b i false)=true:=((Bool.not_eq_false' _).mp c2);⟨omg,?_⟩⟩,fun c1=>have c1:¬(↑i:Int)<(↑(List.length a):Int)∨¬(↑(List.length a):Int)=(↑(List.length b):Int):=((eH c1).imp (fun h=>(of_decide_eq_false h)) (fun h=>(beq_eq_false_iff_ne.mp h)));?_⟩
   ·rw[yT hlt (by unfold bne;rw[c2];rfl)]
    refine⟨_,AH _,(aw (aX _ _ rfl trivial rfl rfl rfl) (Aw krf))⟩
   ·refine(aL (i+1) (aV ⟨Av _,Av _,(Aw krf),trivial⟩ rfl rfl) ?_ ?_)
    ·exact⟨omg,by rw[yS,h3];unfold bne;rw[c2];rfl⟩
    ·omega
   ·exfalso;omega
  ·have hie:i=n:=by omega
   subst hie
   rw[h3]
   refine vcR [] (lkL [(2,[0,1,5,16]),(4,[0,1,5,27]),(5,[4]),(3,[0,1,5])]) (fun _=>[]) (fun Q=>(fun (u1:Bool)=>(fun (u2:Int)=>(fun (u3:AV)=>(fun (u4:AV)=>(u1=true->Flw Tryd.prog/\(0<=u2/\u2<(↑(List.length a):Int))/\1<=1/\(0<=u2/\u2<(↑(List.length b):Int))/\1<=1/\((!List.getD a i false==List.getD b i false)=true->Q AEx.ret (St.mk [(4,AV.bool false)] [] g))/\((!List.getD a i false==List.getD b i false)=false->(-9223372036854775808<=u2+1/\u2+1<=9223372036854775807)/\Q AEx.normal (St.mk [(0,u3),(1,u4),(5,int i64 (u2+1))] [] g)))/\(u1=false->Q (AEx.exit 0) (St.mk [(0,u3),(1,u4),(5,int i64 u2),(16,AV.bool u1)] [] g))) (fz Fz.auto 1 (List.length b) fun i x=>ap b i)) (fz Fz.auto 1 (List.length a) fun i x=>ap a i)) ((↑i:Int))) (bif decide ((↑i:Int)<(↑(List.length a):Int)) then(↑(List.length a):Int)==(↑(List.length b):Int) else false)) ⟨fun c1=>have c1:(↑i:Int)<(↑(List.length a):Int)/\(↑(List.length a):Int)=(↑(List.length b):Int):=⟨(of_decide_eq_true (cq c1).1),(beq_iff_eq.mp (cq c1).2)⟩;⟨krf,omg,omg,omg,omg,fun c2=>have c2:(List.getD a i false==List.getD b i false)=false:=((Bool.not_eq_true' _).mp c2);?_,fun c2=>have c2:(List.getD a i false==List.getD b i false)=true:=((Bool.not_eq_false' _).mp c2);⟨omg,?_⟩⟩,fun c1=>have c1:¬(↑i:Int)<(↑(List.length a):Int)∨¬(↑(List.length a):Int)=(↑(List.length b):Int):=((eH c1).imp (fun h=>(of_decide_eq_false h)) (fun h=>(beq_eq_false_iff_ne.mp h)));?_⟩
   all_goals first|(exfalso;omega)|skip
   refine⟨_,AH _,vcR [] (lkL [(6,[4])]) (fun _=>[]) (fun (Q:AEx->St R.σ->Prop)=>Q AEx.ret (St.mk [(4,AV.bool ((↑(List.length a):Int)==(↑(List.length b):Int)))] [] g)) (?_)⟩
   refine(aw (aX _ _ rfl trivial rfl rfl rfl) (Aw ?_))
   show(AV.bool ((↑(List.length a):Int)==(↑(List.length b):Int)))=_
   show AV.bool _=AV.bool _
   rw[ha,hb]
   simp
theorem Ad (R:Res)(s:List Bool)(hl:s.length<1000000)(g:R.σ):Does Tryd.prog R 85 [bT s] [] g (.ret (.ow true 0 (aA s s.length).length 1)) [.cells false ((aA s s.length).length*1) (ab (aA s s.length))] g:=by
 have hroom:ax=140737488355328:=rfl
 refine spW (nt:=20) (rs:=[.tmp 2]) (k0:=0) ?_
 refine vcR [] (lkL [(0,[0]),(1,[0,3]),(2,[0,3,4])]) (fun _=>[]) (fun (Q:AEx->St R.σ->Prop)=>WpC Tryd.prog R 20 0 85 [1,1,0,1,0] Q [Kont.blk 0,Kont.seq [1,1,1]] (St.mk [(0,fz Fz.auto 1 (List.length s) fun (i x:Nat)=>ap s i),(3,fz Fz.nil 0 0 fun (x x_1:Nat)=>any),(4,int i64 0)] [] g)) (?_)
 refine br (eO (fun _=>.any) 1) ?_
 refine(aZ krf (fun (x:Nat × Nat)=>⟨[(0,fz Fz.auto 1 (s.length) fun (i x:Nat)=>ap s i),(3,.ow true 0 x.2 1),(4,.int .i64 x.1)],[.cells false (x.2*1) (ab (aA s x.1))],g⟩) (fun (x:Nat × Nat)=>(x.1<=s.length/\x.2=(aA s x.1).length)) (fun (x:Nat × Nat)=>(s.length-x.1)) ((0,0):Nat × Nat) (toL (h1:=⟨Av _,Le.nil_ow,(Aw krf),trivial⟩) (h2:=⟨⟨rfl,Nat.le_refl _,fun j hj=>absurd hj (Nat.not_lt_zero j)⟩,trivial⟩)) ?_ (fun x hi=>?_))
 ·exact⟨Nat.zero_le _,rfl⟩
 ·obtain⟨i,m⟩:=x
  obtain⟨hi,hm⟩:=hi
  simp only at hi hm
  have hml:=j6 (s:=s) (n:=i)
  have hns:=ox (s:=s) (n:=i)
  rcases Nat.lt_or_ge i s.length with hi'|hi'
  ·refine vcR [] (lkL [(3,[0,3,4,8]),(5,[0,3,4,14]),(6,[0,3,4]),(4,[0,3,4])]) (lkL [(6,[(3,ROrc.val (Orc.obj (ab (aA s i++[(↑i:Int)]))))])]) (fun Q=>(fun (u1:Int)=>(fun (u2:Int)=>(fun (u3:Nat × AV)=>(fun (u4:AObj)=>(decide (u1<u2)=true->(0<=u1/\u1<u2)/\1<=1/\(List.getD s i false=true->0<1/\(m+1)*8<=ax/\m+1<=ax/\1<=1/\m*1<=m*1/\(∀(c:Nat),c<(m+1)*1->ab (aA s i++[u1]) c=aS 1 m (fun (i_1 j:Nat)=>ab (aA s i) (i_1*1+j)) (fun (i j:Nat)=>ah (fun (j:Nat)=>int i64 0) 0 1 (fun (x:Nat)=>int i64 u1) (0+i*1+j)) c)/\(-9223372036854775808<=u1+1/\u1+1<=9223372036854775807)/\Q AEx.normal (St.mk [u3,(3,ow true 2 (m+1) 1),(4,int i64 (u1+1))] [dead,cells false 1 (ah (fun (j:Nat)=>int i64 0) 0 1 fun x=>int i64 u1),cells false ((m+1)*1) fun a=>ab (aA s i++[u1]) a] g))/\(List.getD s i false=false->(-9223372036854775808<=u1+1/\u1+1<=9223372036854775807)/\Q AEx.normal (St.mk [u3,(3,ow true 0 m 1),(4,int i64 (u1+1))] [u4] g)))/\(decide (u1<u2)=false->Q (AEx.exit 0) (St.mk [u3,(3,ow true 0 m 1),(4,int i64 u1),(8,AV.bool (decide (u1<u2)))] [u4] g))) (cells false (m*1) fun a=>ab (aA s i) a)) ((0,fz Fz.auto 1 (List.length s) fun i x=>ap s i))) ((↑(List.length s):Int))) ((↑i:Int))) ⟨fun c1=>have c1:(↑i:Int)<(↑(List.length s):Int):=(of_decide_eq_true c1);⟨omg,omg,fun c2=>⟨omg,omg,omg,omg,omg,?_,omg,?_⟩,fun c2=>⟨omg,?_⟩⟩,fun c1=>have c1:¬(↑i:Int)<(↑(List.length s):Int):=(of_decide_eq_false c1);?_⟩
   ·intro c hc
    rw[hm] at hc ⊢
    exact(lP (z:=fun _=>.int .i64 0) hc).trans krf
   ·rw[if_pos c2] at hns
    refine(aL (i+1,m+1) (toS [2] 3 (hob:=⟨?_,trivial⟩)) ?_ ?_)
    ·show LeO (.cells false ((m+1)*1) (ab (aA s i++[(i:Int)]))) (.cells false ((m+1)*1) (ab (aA s (i+1))))
     rw[hns]
     exact Ay _
    ·refine⟨by show i+1<=_;omega,?_⟩
     show m+1=(aA s (i+1)).length
     rw[hns,List.length_append,<-hm]
     rfl
    ·show s.length-(i+1)<s.length-i
     omega
   ·rw[if_neg (by rw[c2];decide)] at hns
    refine(aL (i+1,m) (toL (h1:=⟨Av _,Av _,(Aw krf),trivial⟩) (h2:=⟨?_,trivial⟩)) ?_ ?_)
    ·show LeO (.cells false (m*1) (ab (aA s i))) (.cells false (m*1) (ab (aA s (i+1))))
     rw[hns]
     exact Ay _
    ·refine⟨by show i+1<=_;omega,?_⟩
     show m=(aA s (i+1)).length
     rw[hns,<-hm]
    ·show s.length-(i+1)<s.length-i
     omega
   ·exfalso;omega
  ·have hie:i=s.length:=by omega
   subst hie
   subst hm
   refine vcR [] (lkL [(3,[0,3,4,8]),(5,[0,3,4,14]),(6,[0,3,4]),(4,[0,3,4])]) (fun _=>[]) (fun Q=>(fun (u1:Int)=>(fun (u2:Nat)=>(fun (u3:Nat × AV)=>(fun (u4:AObj)=>(decide (u1<u1)=true->(0<=u1/\u1<u1)/\1<=1/\(List.getD s (List.length s) false=true->0<1/\(u2+1)*8<=ax/\u2+1<=ax/\1<=1/\u2*1<=u2*1/\(-9223372036854775808<=u1+1/\u1+1<=9223372036854775807)/\Q AEx.normal (St.mk [u3,(3,ow true 2 (u2+1) 1),(4,int i64 (u1+1))] [dead,cells false 1 (ah (fun (j:Nat)=>int i64 0) 0 1 fun x=>int i64 u1),cells false ((u2+1)*1) (aS 1 u2 (fun (i j:Nat)=>ab (aA s (List.length s)) (i*1+j)) fun i j=>ah (fun (j:Nat)=>int i64 0) 0 1 (fun (x:Nat)=>int i64 u1) (0+i*1+j))] g))/\(List.getD s (List.length s) false=false->(-9223372036854775808<=u1+1/\u1+1<=9223372036854775807)/\Q AEx.normal (St.mk [u3,(3,ow true 0 u2 1),(4,int i64 (u1+1))] [u4] g)))/\(decide (u1<u1)=false->Q (AEx.exit 0) (St.mk [u3,(3,ow true 0 u2 1),(4,int i64 u1),(8,AV.bool (decide (u1<u1)))] [u4] g))) (cells false (u2*1) fun a=>ab (aA s (List.length s)) a)) ((0,fz Fz.auto 1 (List.length s) fun i x=>ap s i))) (List.length (aA s (List.length s)))) ((↑(List.length s):Int))) ⟨fun c1=>have c1:(↑(List.length s):Int)<(↑(List.length s):Int):=(of_decide_eq_true c1);⟨omg,omg,fun c2=>⟨omg,omg,omg,omg,omg,omg,?_⟩,fun c2=>⟨omg,?_⟩⟩,fun c1=>have c1:¬(↑(List.length s):Int)<(↑(List.length s):Int):=(of_decide_eq_false c1);?_⟩
   all_goals first|(exfalso;omega)|skip
   refine⟨_,AH _,vcR [] (lkL [(7,[2])]) (fun _=>[]) (fun (Q:AEx->St R.σ->Prop)=>Q AEx.ret (St.mk [(2,ow true 0 (List.length (aA s (List.length s))) 1)] [cells false (List.length (aA s (List.length s))*1) fun (a:Nat)=>ab (aA s (List.length s)) a] g)) (?_)⟩
   refine(aw (aX _ _ rfl trivial rfl rfl rfl) (Av _))
theorem Ae (R:Res)(s:List Bool)(hl:s.length<1000000)(g:R.σ):Does Tryd.prog R 85 [bT s] [] g (.ret (aj ⟨aA s s.length,.auto⟩)) [] g:=by
 refine eK (Ad R s hl g) ?_
 exact fo 0 [(0,aj ⟨aA s s.length,.auto⟩)] (Nat.le_refl _) (Nat.zero_le _) (fun i hi=>absurd hi (Nat.not_lt_zero i)) ⟨oC rfl rfl (Nat.zero_le _),trivial⟩
theorem Af (R:Res)(p:Prg)(set:List Bool)(n:Nat)(hn:0<n/\n<=1000)(hset:set.length=n)(hpa:p.atoms=n)(hpl:p.rules.l.length<1000000)(hr:∀r,r∈p.rules.l->cu n r)(g:R.σ):Does Tryd.prog R 38 [au p,bT set] [] g (.ret (bT (foR p set n))) [] g:=by
 refine eK (z7 R p set n hn hset hpa hpl hr g) ?_
 have hD:∀s,s.length=n->HgS (s,false) (foD p set s):=fun s hs=>ia (fun r h=>by rw[show(s,false).1.length=n from hs];have:=(hr r h).2;omega)
 exact fo 0 [(0,bT (foR p set n))] (Nat.le_refl _) (Nat.zero_le _) (fun i hi=>absurd hi (Nat.not_lt_zero i)) ⟨sN (kd (fun s hs=>(hD s hs).len.trans hs) List.length_replicate) rfl (Nat.zero_le _),trivial⟩
def ar (n s:Nat):List Bool:=(List.range n).map fun j=>s.testBit j
theorem cj {n s:Nat}:(ar n s).length=n:=by unfold ar;rw[List.length_map,List.length_range]
theorem ic {n s j:Nat}(hs:∀j,s.testBit j=true->j<n):(ar n s).getD j false=s.testBit j:=by
 rcases Nat.lt_or_ge j n with hj|hj
 ·unfold ar
  rw[List.getD_eq_getElem?_getD,List.getElem?_map,List.getElem?_range hj]
  rfl
 ·rw[List.getD_eq_getElem?_getD,List.getElem?_eq_none (by rw[cj];exact hj)]
  cases hb:s.testBit j with
  |false=>rfl
  |true=>have:=hs j hb;omega
theorem gA {n s a:Nat}(hs:∀j,s.testBit j=true->j<n)(ha:a<n):(ar n s).set a true=ar n (s|||2^a):=by
 refine lv false (by rw[List.length_set,cj,cj]) (fun j hj=>?_)
 have hs2:∀j,(s|||2^a).testBit j=true->j<n:=fun j h=>by
  rw[eR,Bool.or_eq_true,decide_eq_true_eq] at h
  rcases h with h|h
  ·exact hs j h
  ·omega
 rw[List.length_set,cj] at hj
 rw[ic hs2,eR,List.getD_eq_getElem?_getD,List.getElem?_set]
 by_cases h:a=j
 ·rw[if_pos h,if_pos (by rw[cj];exact ha),decide_eq_true h,Bool.or_true]
  rfl
 ·rw[if_neg h,<-List.getD_eq_getElem?_getD,ic hs,decide_eq_false h,Bool.or_false]
theorem Ag {p:Prg}{n s:Nat}(hn:n<=24)(hr:∀r,r∈p.rules.l->aH r)(hrn:∀r,r∈p.rules.l->r.head.toNat<n)(hs:∀j,s.testBit j=true->j<n):(!dL (foR p (ar n s) n) (ar n s) n)=decide (fol p.rules.l s=s):=by
 have hf:∀j,(foR p (ar n s) n).getD j false=(fol p.rules.l s).testBit j:=fun j=>Ab hr hrn (fun j=>(ic hs).symm) j
 rw[Bool.eq_iff_iff,decide_eq_true_eq,Bool.not_eq_true']
 unfold dL
 rw[List.any_eq_false]
 constructor
 ·intro h
  refine Nat.eq_of_testBit_eq (fun j=>?_)
  rcases Nat.lt_or_ge j n with hj|hj
  ·have:=h j (List.mem_range.2 hj)
   rw[hf,ic hs] at this
   simpa using this
  ·have h1:s.testBit j=false:=by
    cases hb:s.testBit j with
    |false=>rfl
    |true=>have:=hs j hb;omega
   have h2:(fol p.rules.l s).testBit j=false:=by
    cases hb:(fol p.rules.l s).testBit j with
    |false=>rfl
    |true=>
     have:=s6 (set:=fun j=>s.testBit j) (s:=s) (l:=p.rules.l) (m:=fun j=>decide (j<n)) (fun _=>rfl) (fun r h _=>decide_eq_true (hrn r h)) j hb
     have:=of_decide_eq_true this
     omega
   rw[h1,h2]
 ·intro e j hj
  rw[hf,ic hs,e]
  simp
structure ModC (p:Prg)(most n:Nat)(r:List Int):Prop where
 nn:∀(R:Res) (s:Nat) (g:R.σ),s<2^n->stF p most r s []=[]->Does Tryd.prog R 81 [au p,bT (ar n s),aj ⟨r,.may⟩,.int .i64 most,.fz .nil 0 0 (fun _ _=>.any)] [] g (.ret (.fz .nil 0 0 (fun _ _=>.any))) [] g
 nw:∀(R:Res) (s m:Nat) (L:List Nat) (g:R.σ),s<2^n->stF p most r s []=L->L≠[]->m=L.length->Does Tryd.prog R 81 [au p,bT (ar n s),aj ⟨r,.may⟩,.int .i64 most,.fz .nil 0 0 (fun _ _=>.any)] [] g (.ret (.ow true 0 m 1)) [.cells false (m*1) (aB L)] g
 on:∀(R:Res) (s m:Nat) (L:List Nat) (g:R.σ),s<2^n->L≠[]->m=L.length->m<=most->stF p most r s L=L->Does Tryd.prog R 81 [au p,bT (ar n s),aj ⟨r,.may⟩,.int .i64 most,.ow true 0 m 1] [.cells false (m*1) (aB L)] g (.ret (.ow true 0 m 1)) [.cells false (m*1) (aB L)] g
 ow:∀(R:Res) (s m m':Nat) (L L':List Nat) (g:R.σ),s<2^n->L≠[]->m=L.length->m<=most->stF p most r s L=L'->m'=L'.length->m≠m'->Does Tryd.prog R 81 [au p,bT (ar n s),aj ⟨r,.may⟩,.int .i64 most,.ow true 0 m 1] [.cells false (m*1) (aB L)] g (.ret (.ow true 1 m' 1)) [.dead,.cells false (m'*1) (aB L')] g
theorem eU {n s j:Nat}(h:s<2^n)(hj:s.testBit j=true):j<n:=by
 rcases Nat.lt_or_ge j n with h1|h1
 ·exact h1
 ·have:=Nat.testBit_lt_two_pow (Nat.lt_of_lt_of_le h (Nat.pow_le_pow_right dcd h1))
  rw[this] at hj
  cases hj
theorem l0 {n s a:Nat}(h:s<2^n)(ha:a<n):s|||2^a<2^n:=Nat.or_lt_two_pow h (Nat.pow_lt_pow_right dcd ha)
theorem Ah {p:Prg}{most n:Nat}(hm:1<=most/\most<=100)(hn:0<n/\n<=24)(hpa:p.atoms=n)(hl:p.rules.l.length<1000000)(hr:∀r,r∈p.rules.l->aH r)(hrn:∀r,r∈p.rules.l->cu n r):ModC p most n []:=by
 have hroom:ax=140737488355328:=rfl
 have e0:∀s L,stF p most [] s L=if L.length=most then L else if fol p.rules.l s=s then L++[s] else L:=fun s L=>rfl
 have hhn:∀r,r∈p.rules.l->r.head.toNat<n:=fun r h=>by have:=(hrn r h).2;omega
 have hSm:∀s,s<2^n->(!dL (foR p (ar n s) n) (ar n s) n)=decide (fol p.rules.l s=s):=fun s hs=>Ag hn.2 hr hhn (fun j=>eU hs)
 have hbl:∀s,(ar n s).length=n:=fun s=>cj
 have hFl:∀s,(foR p (ar n s) n).length=n:=fun s=>kd (fun s' hs=>((ia (l:=p.rules.l) (set:=ar n s) (x:=(s',false)) (fun r h=>by rw[show(s',false).1.length=n from hs];exact hhn r h)).len).trans hs) List.length_replicate
 have hF:=fun (R:Res) (s:Nat) (g:R.σ)=>Af R p (ar n s) n omg (hbl s) hpa hl hrn g
 have hS:=fun (R:Res) (s:Nat) (g:R.σ)=>Ac R (foR p (ar n s) n) (ar n s) n (hFl s) (hbl s) omg g
 have hN0:∀(R:Res) (s:Nat) (g:R.σ),s<2^n->Does Tryd.prog R 85 [bT (ar n s)] [] g (.ret (aj (ag s))) [] g:=fun R s g hs=>by
  have h:=Ae R (ar n s) (by rw[hbl];omega) g
  rw[hbl,sM (m:=s) hn.2 (hbl s) (fun j=>ic (fun j=>eU hs))] at h
  exact h
 have hz0:decide (((0:Nat):Int) >= (most:Int))=false:=decide_eq_false omg
 constructor
 ·intro R s g hs h
  rw[e0,if_neg (by show ¬0=most;omega)] at h
  have hN:=fun (R:Res) (g:R.σ)=>hN0 R s g hs
  have hSm1:=hSm s hs
  rw[show decide (fol p.rules.l s=s)=false from decide_eq_false (fun e=>by rw[if_pos e] at h;cases h)] at hSm1
  refine spW (nt:=51) (rs:=[.tmp 10]) (k0:=0) ?_
  refine vcR [[1,0,1,0],[1,1,0,1,0,0,1,0],[1,1,0,1,1]] (lkL [(0,[1,2,3,4,5]),(1,[1,2,3,4,5,14]),(3,[1,2,3,4,5,18]),(4,[1,4,23]),(6,[10])]) (lkL [(4,[(2,ROrc.kcall (fz Fz.auto 1 ((foR p (ar n s) n).length) fun (i x:Nat)=>ap (foR p (ar n s) n) i)),(4,ROrc.kcall (AV.bool false))])]) (fun Q=>(fun (u1:List AObj)=>(fun (u2:AV)=>(fun (u3:AV)=>(fun (u4:AV)=>(fun (u5:Int)=>(fun (u6:Bool)=>(u6=true->WpC Tryd.prog R 51 0 81 [1,0,1,0] Q [Kont.seq [1,1]] (St.mk [(1,u2),(2,fz Fz.may 1 0 fun i x=>ab [] i),(3,int i64 u5),(4,u3),(5,ref 0 0),(14,AV.bool u6)] u1 g))/\(u6=false->(true=true->2<=2/\(true=true/\Does Tryd.prog R 38 [au p,u2] u1 g (ret u4) u1 g)/\(true=true/\Does Tryd.prog R 37 [u4,u2] u1 g (ret (AV.bool false)) u1 g)/\(false=true->WpC Tryd.prog R 51 0 81 [1,1,0,1,0,0,1,0] Q [Kont.seq [1,1,0,1,0,1],Kont.seq [1,1,1]] (St.mk [(1,u2),(4,u3),(23,AV.bool false)] u1 g))/\(false=false->Q AEx.ret (St.mk [(10,u3)] u1 g)))/\(true=false->WpC Tryd.prog R 51 0 81 [1,1,0,1,1] Q [Kont.seq [1,1,1]] (St.mk [(1,u2),(2,fz Fz.may 1 0 fun i x=>ab [] i),(3,int i64 u5),(4,u3),(5,ref 0 0),(18,AV.bool true)] u1 g)))) (decide ((↑0:Int) >= u5))) ((most:Int))) (fz Fz.auto 1 ((foR p (ar n s) n).length) fun i x=>ap (foR p (ar n s) n) i)) (fz Fz.nil 0 0 fun x x_1=>any)) (fz Fz.auto 1 ((ar n s).length) fun i x=>ap (ar n s) i)) ([cells false 2 (nth [int i64 p.atoms,ad p.rules])])) ⟨fun hcc=>(nomatch (hz0.symm.trans hcc)),fun _=>⟨fun _=>⟨omg,⟨rfl,(doS [] 1 (fun R g=>hF R (s) g))⟩,⟨rfl,(eJ hSm1 (doS [] 1 (fun R g=>hS R (s) g)))⟩,fun h=>(nomatch h),fun _=>?_⟩,fun h=>(nomatch h)⟩⟩
  refine(aw (bt _ _ rfl trivial trivial rfl) (Av _))
 ·intro R s m L g hs h hL hmL
  rw[e0,if_neg (by show ¬0=most;omega)] at h
  have hN:=fun (R:Res) (g:R.σ)=>hN0 R s g hs
  have hSm1:=hSm s hs
  have h2:fol p.rules.l s=s:=by
   by_cases e:fol p.rules.l s=s
   ·exact e
   ·rw[if_neg e] at h
    exact absurd h.symm hL
  rw[if_pos h2] at h
  subst h
  subst hmL
  rw[decide_eq_true h2] at hSm1
  refine spW (nt:=51) (rs:=[.tmp 10]) (k0:=0) ?_
  refine vcR [[1,0,1,0],[1,1,0,1,0,0,1,1],[1,1,0,1,1]] (lkL [(0,[1,2,3,4,5]),(1,[1,2,3,4,5,14]),(3,[1,2,3,4,5,18]),(4,[1,4,23]),(5,[4]),(6,[10])]) (lkL [(4,[(2,ROrc.kcall (fz Fz.auto 1 ((foR p (ar n s) n).length) fun (i x:Nat)=>ap (foR p (ar n s) n) i)),(4,ROrc.kcall (AV.bool true))]),(5,[(2,ROrc.kcall (fz Fz.auto 1 ((ag s).l.length) fun (i x:Nat)=>ab (ag s).l i)),(4,ROrc.val (Orc.obj (aB ([]++[s]))))])]) (fun Q=>(fun (u1:AObj)=>(fun (u2:AV)=>(fun (u3:AV)=>(fun (u4:AV)=>(fun (u5:AV)=>(fun (u6:Int)=>(fun (u7:Bool)=>(u7=true->WpC Tryd.prog R 51 0 81 [1,0,1,0] Q [Kont.seq [1,1]] (St.mk [(1,u2),(2,fz Fz.may 1 0 fun i x=>ab [] i),(3,int i64 u6),(4,u3),(5,ref 0 0),(14,AV.bool u7)] [u1] g))/\(u7=false->(true=true->2<=2/\(true=true/\Does Tryd.prog R 38 [au p,u2] [u1] g (ret u5) [u1] g)/\(true=true/\Does Tryd.prog R 37 [u5,u2] [u1] g (ret (AV.bool true)) [u1] g)/\(true=true->(true=true/\Does Tryd.prog R 85 [u2] [u1] g (ret u4) [u1] g)/\0<1/\24<=ax/\1<=ax/\1<=1/\(∀(c:Nat),c<1->(fz Fz.auto 1 ((ag (([]++[s]).getD c 0)).l.length) fun i x=>ab (ag (([]++[s]).getD c 0)).l i)=aS 1 0 (fun _ _=>any) (fun (i j:Nat)=>ah (fun (j:Nat)=>u3) 0 1 (fun (x:Nat)=>u4) (0+i*1+j)) c)/\Q AEx.ret (St.mk [(10,ow true 2 1 1)] [u1,cells false 1 (ah (fun (j:Nat)=>u3) 0 1 fun x=>u4),cells false 1 fun a=>fz Fz.auto 1 ((ag (([]++[s]).getD a 0)).l.length) fun i x=>ab (ag (([]++[s]).getD a 0)).l i] g))/\(true=false->WpC Tryd.prog R 51 0 81 [1,1,0,1,0,0,1,1] Q [Kont.seq [1,1,0,1,0,1],Kont.seq [1,1,1]] (St.mk [(1,u2),(4,u3),(23,AV.bool true)] [u1] g)))/\(true=false->WpC Tryd.prog R 51 0 81 [1,1,0,1,1] Q [Kont.seq [1,1,1]] (St.mk [(1,u2),(2,fz Fz.may 1 0 fun i x=>ab [] i),(3,int i64 u6),(4,u3),(5,ref 0 0),(18,AV.bool true)] [u1] g)))) (decide ((↑0:Int) >= u6))) ((most:Int))) (fz Fz.auto 1 ((foR p (ar n s) n).length) fun i x=>ap (foR p (ar n s) n) i)) (fz Fz.auto 1 ((ag s).l.length) fun i x=>ab (ag s).l i)) (fz Fz.nil 0 0 fun x x_1=>any)) (fz Fz.auto 1 ((ar n s).length) fun i x=>ap (ar n s) i)) (cells false 2 (nth [int i64 p.atoms,ad p.rules]))) ⟨fun hcc=>(nomatch (hz0.symm.trans hcc)),fun _=>⟨fun _=>⟨omg,⟨rfl,(doS [] 1 (fun R g=>hF R (s) g))⟩,⟨rfl,(eJ hSm1 (doS [] 1 (fun R g=>hS R (s) g)))⟩,fun _=>⟨⟨rfl,(doS [] 1 (fun R g=>hN0 R (s) g omg))⟩,omg,omg,omg,omg,?_,?_⟩,fun h=>(nomatch h)⟩,fun h=>(nomatch h)⟩⟩
  ·exact fun c hc=>(iZ (L:=[]) (m:=0) (z:=fun _=>.fz .nil 0 0 (fun _ _=>.any)) (old:=fun _ _=>.any) rfl (fun i hi=>absurd hi (Nat.not_lt_zero i)) hc).trans krf
  ·show a9 Tryd.prog R 0 _ _ _ _ .ret _
   exact bY (.ow true 2 1 1) _ rfl trivial (toS (s':=⟨[(0,.ow true 0 1 1)],[.cells false (1*1) (aB [s])],g⟩) [2] 3)
 ·intro R s m L g hs hL hmL hmm h
  rw[e0] at h
  have hN:=fun (R:Res) (g:R.σ)=>hN0 R s g hs
  have hSm1:=hSm s hs
  refine spW (nt:=51) (rs:=[.tmp 10]) (k0:=1) ?_
  refine vcR [[1,1,0,1,1]] (lkL [(0,[1,2,3,4,5]),(1,[1,2,3,4,5,14]),(2,[10]),(3,[1,2,3,4,5,18]),(4,[1,4,23]),(5,[4]),(6,[10])]) (lkL [(4,[(2,ROrc.kcall (fz Fz.auto 1 (List.length (foR p (ar n s) n)) fun (i x:Nat)=>ap (foR p (ar n s) n) i)),(4,ROrc.kcall (AV.bool !dL (foR p (ar n s) n) (ar n s) n))]),(5,[(2,ROrc.kcall (fz Fz.auto 1 (List.length (ag s).l) fun (i x:Nat)=>ab (ag s).l i))])]) (fun Q=>(fun (u1:List AObj)=>(fun (u2:AV)=>(fun (u3:AV)=>(fun (u4:List Bool)=>(fun (u5:AV)=>(fun (u6:Int)=>(decide ((↑m:Int) >= u6)=true->Q AEx.ret (St.mk [(10,ow true 0 m 1)] u1 g))/\(decide ((↑m:Int) >= u6)=false->(true=true->2<=2/\(true=true/\Does Tryd.prog R 38 [au p,u2] u1 g (ret u5) u1 g)/\(true=true/\Does Tryd.prog R 37 [u5,u2] u1 g (ret (AV.bool !dL u4 (ar n s) n)) u1 g)/\((!dL u4 (ar n s) n)=true->(true=true/\Does Tryd.prog R 85 [u2] u1 g (ret u3) u1 g)/\0<1/\(m+1)*24<=ax/\m+1<=ax/\1<=1/\m*1<=m*1/\Q AEx.ret (St.mk [(10,ow true 3 (m+1) 1)] [dead,cells false 2 (nth [int i64 p.atoms,ad p.rules]),cells false 1 (ah (fun (j:Nat)=>fz Fz.nil 0 0 fun x x_1=>any) 0 1 fun x=>u3),cells false ((m+1)*1) (aS 1 m (fun (i j:Nat)=>fz Fz.auto 1 (List.length (ag (List.getD L (i*1+j) 0)).l) fun i_1 x=>ab (ag (List.getD L (i*1+j) 0)).l i_1) fun i j=>ah (fun (j:Nat)=>fz Fz.nil 0 0 fun x x_1=>any) 0 1 (fun (x:Nat)=>u3) (0+i*1+j))] g))/\((!dL u4 (ar n s) n)=false->Q AEx.ret (St.mk [(10,ow true 0 m 1)] u1 g)))/\(true=false->WpC Tryd.prog R 51 1 81 [1,1,0,1,1] Q [Kont.seq [1,1,1]] (St.mk [(1,u2),(2,fz Fz.may 1 0 fun i x=>ab [] i),(3,int i64 u6),(4,ow true 0 m 1),(5,ref 1 0),(18,AV.bool true)] u1 g)))) ((↑most:Int))) (fz Fz.auto 1 (List.length u4) fun i x=>ap u4 i)) (foR p (ar n s) n)) (fz Fz.auto 1 (List.length (ag s).l) fun i x=>ab (ag s).l i)) (fz Fz.auto 1 (List.length (ar n s)) fun i x=>ap (ar n s) i)) ([cells false (m*1) fun a=>fz Fz.auto 1 (List.length (ag (List.getD L a 0)).l) fun i x=>ab (ag (List.getD L a 0)).l i,cells false 2 (nth [int i64 p.atoms,ad p.rules])])) ⟨fun c1=>have c1:(↑m:Int) >= (↑most:Int):=(of_decide_eq_true c1);?_,fun c1=>have c1:¬(↑m:Int) >= (↑most:Int):=(of_decide_eq_false c1);⟨fun _=>⟨omg,⟨rfl,(doS [] 2 (fun R g=>hF R (s) g))⟩,⟨rfl,(doS [] 2 (fun R g=>hS R (s) g))⟩,fun c2=>have c2:dL (foR p (ar n s) n) (ar n s) n=false:=((Bool.not_eq_true' _).mp c2);⟨⟨rfl,(doS [] 2 (fun R g=>hN0 R (s) g omg))⟩,omg,omg,omg,omg,omg,?_⟩,fun c2=>have c2:dL (foR p (ar n s) n) (ar n s) n=true:=((Bool.not_eq_false' _).mp c2);?_⟩,fun h=>(nomatch h)⟩⟩
  ·refine(aw (bv 1 _ _ rfl trivial omg (show 1<=1 by omega) ⟨(fun _ _=>trivial),trivial⟩ krf rfl rfl) (Av _))
  ·exfalso
   rw[c2] at hSm1
   rw[if_neg omg,if_pos (of_decide_eq_true hSm1.symm)] at h
   have:=congrArg List.length h
   rw[List.length_append,List.length_singleton] at this
   omega
  ·refine(aw (bv 1 _ _ rfl trivial omg (show 1<=1 by omega) ⟨(fun _ _=>trivial),trivial⟩ krf rfl rfl) (Av _))
 ·intro R s m m' L L' g hs hL hmL hmm h hm' hne
  rw[e0] at h
  have hN:=fun (R:Res) (g:R.σ)=>hN0 R s g hs
  have hSm1:=hSm s hs
  have h1:¬L.length=most:=fun e=>by
   rw[if_pos e] at h
   subst h
   omega
  have h2:fol p.rules.l s=s:=by
   by_cases e:fol p.rules.l s=s
   ·exact e
   ·rw[if_neg e,ite_self] at h
    subst h
    omega
  rw[if_neg h1,if_pos h2] at h
  subst h
  have hmm1:m'=m+1:=by rw[hm',List.length_append,hmL];rfl
  subst hmm1
  rw[decide_eq_true h2] at hSm1
  have hz:decide ((m:Int) >= (most:Int))=false:=decide_eq_false (by rw[hmL];omega)
  refine spW (nt:=51) (rs:=[.tmp 10]) (k0:=1) ?_
  refine vcR [[1,0,1,0],[1,1,0,1,0,0,1,1],[1,1,0,1,1]] (lkL [(0,[1,2,3,4,5]),(1,[1,2,3,4,5,14]),(3,[1,2,3,4,5,18]),(4,[1,4,23]),(5,[4]),(6,[10])]) (lkL [(4,[(2,ROrc.kcall (fz Fz.auto 1 ((foR p (ar n s) n).length) fun (i x:Nat)=>ap (foR p (ar n s) n) i)),(4,ROrc.kcall (AV.bool true))]),(5,[(2,ROrc.kcall (fz Fz.auto 1 ((ag s).l.length) fun (i x:Nat)=>ab (ag s).l i)),(4,ROrc.val (Orc.obj (aB (L++[s]))))])]) (fun Q=>(fun (u1:List AObj)=>(fun (u2:AV)=>(fun (u3:AV)=>(fun (u4:AV)=>(fun (u5:Int)=>(fun (u6:Bool)=>(u6=true->WpC Tryd.prog R 51 1 81 [1,0,1,0] Q [Kont.seq [1,1]] (St.mk [(1,u2),(2,fz Fz.may 1 0 fun i x=>ab [] i),(3,int i64 u5),(4,ow true 0 m 1),(5,ref 1 0),(14,AV.bool u6)] u1 g))/\(u6=false->(true=true->2<=2/\(true=true/\Does Tryd.prog R 38 [au p,u2] u1 g (ret u4) u1 g)/\(true=true/\Does Tryd.prog R 37 [u4,u2] u1 g (ret (AV.bool true)) u1 g)/\(true=true->(true=true/\Does Tryd.prog R 85 [u2] u1 g (ret u3) u1 g)/\0<1/\(m+1)*24<=ax/\m+1<=ax/\1<=1/\m*1<=m*1/\(∀(c:Nat),c<(m+1)*1->(fz Fz.auto 1 ((ag ((L++[s]).getD c 0)).l.length) fun i x=>ab (ag ((L++[s]).getD c 0)).l i)=aS 1 m (fun (i j:Nat)=>fz Fz.auto 1 ((ag (L.getD (i*1+j) 0)).l.length) fun i_1 x=>ab (ag (L.getD (i*1+j) 0)).l i_1) (fun (i j:Nat)=>ah (fun (j:Nat)=>fz Fz.nil 0 0 fun x x_1=>any) 0 1 (fun (x:Nat)=>u3) (0+i*1+j)) c)/\Q AEx.ret (St.mk [(10,ow true 3 (m+1) 1)] [dead,cells false 2 (nth [int i64 p.atoms,ad p.rules]),cells false 1 (ah (fun (j:Nat)=>fz Fz.nil 0 0 fun x x_1=>any) 0 1 fun x=>u3),cells false ((m+1)*1) fun a=>fz Fz.auto 1 ((ag ((L++[s]).getD a 0)).l.length) fun i x=>ab (ag ((L++[s]).getD a 0)).l i] g))/\(true=false->WpC Tryd.prog R 51 1 81 [1,1,0,1,0,0,1,1] Q [Kont.seq [1,1,0,1,0,1],Kont.seq [1,1,1]] (St.mk [(1,u2),(4,ow true 0 m 1),(23,AV.bool true)] u1 g)))/\(true=false->WpC Tryd.prog R 51 1 81 [1,1,0,1,1] Q [Kont.seq [1,1,1]] (St.mk [(1,u2),(2,fz Fz.may 1 0 fun i x=>ab [] i),(3,int i64 u5),(4,ow true 0 m 1),(5,ref 1 0),(18,AV.bool true)] u1 g)))) (decide ((m:Int) >= u5))) ((most:Int))) (fz Fz.auto 1 ((foR p (ar n s) n).length) fun i x=>ap (foR p (ar n s) n) i)) (fz Fz.auto 1 ((ag s).l.length) fun i x=>ab (ag s).l i)) (fz Fz.auto 1 ((ar n s).length) fun i x=>ap (ar n s) i)) ([cells false (m*1) fun a=>fz Fz.auto 1 ((ag (L.getD a 0)).l.length) fun i x=>ab (ag (L.getD a 0)).l i,cells false 2 (nth [int i64 p.atoms,ad p.rules])])) ⟨fun hcc=>(nomatch (hz.symm.trans hcc)),fun _=>⟨fun _=>⟨omg,⟨rfl,(doS [] 2 (fun R g=>hF R (s) g))⟩,⟨rfl,(eJ hSm1 (doS [] 2 (fun R g=>hS R (s) g)))⟩,fun _=>⟨⟨rfl,(doS [] 2 (fun R g=>hN0 R (s) g omg))⟩,omg,omg,omg,omg,omg,?_,?_⟩,fun h=>(nomatch h)⟩,fun h=>(nomatch h)⟩⟩
  ·exact fun c hc=>(iZ (L:=L) (m:=m) (z:=fun _=>.fz .nil 0 0 (fun _ _=>.any)) (old:=fun i j=>aB L (i*1+j)) hmL (fun i hi=>by show aB L (i*1+0)=aB L i;rw[show i*1+0=i by omega]) hc).trans krf
  ·show a9 Tryd.prog R 1 _ _ _ _ .ret _
   exact bY (.ow true 3 (m+1) 1) _ rfl trivial (toS (s':=⟨[(0,.ow true 1 (m+1) 1)],[.dead,.cells false ((m+1)*1) (aB (L++[s]))],g⟩) [0,3] 4)
theorem f7 {hp:List AObj}{k m o n:Nat}{l:List Bool}{c:Nat->AV}(hn:l.length=n)(hc:∀j,c j=ap l j)(ho:af hp o=.cells false (n*1) c)(hk:k<=o):aq hp k m (.ow true o n 1) (bT l):=sN hn (ho.trans (by rw[funext hc])) hk
theorem dy {P:Program}{R:Res}{o:Oper}{ev:Operand->AV}{hp:List AObj}{g:R.σ}{a:Int}{r:List Int}(h:di (aC P) hp ev .none o.op=some ⟨.fz .may 1 ((a::r).length-1) (fun i j=>ab (a::r) (1+i)),hp,[(a::r).length<=(a::r).length,0<=(1:Int)/\(1:Int)<=((a::r).length:Int)],.pure⟩):OpOk P R o ev hp g (aj ⟨r,.may⟩) hp g:=
 lc h (by exact⟨Nat.le_refl _,⟨omg,by rw[List.length_cons];omega⟩,trivial⟩) (AB rfl (fun i j hi hj=>by
  show AV.int .i64 ((a::r).getD (1+i) 0)=AV.int .i64 (r.getD i 0)
  rw[Nat.add_comm,List.getD_cons_succ]))
theorem Ai {p:Prg}{most n:Nat}{a:Int}{r:List Int}(hm:1<=most/\most<=100)(hn:0<n/\n<=24)(hpa:p.atoms=n)(hrl:r.length<24)(ha:0<=a/\a<n)(ih:ModC p most n r):ModC p most n (a::r):=by
 have hroom:ax=140737488355328:=rfl
 have e0:∀s L,stF p most (a::r) s L=if L.length=most then L else stF p most r (s|||2^a.toNat) (stF p most r s L):=fun s L=>rfl
 have hbl:∀s,(ar n s).length=n:=fun s=>cj
 have ha0:(a::r).getD 0 0=a:=rfl
 have hal:(a::r).length=r.length+1:=rfl
 have hz0:decide (((0:Nat):Int) >= (most:Int))=false:=decide_eq_false omg
 constructor
 ·intro R s g hs h
  have hbs:=hbl s
  rw[e0,if_neg (by show ¬0=most;omega)] at h
  obtain⟨t,ht⟩:∃t,s|||2^a.toNat=t:=⟨_,rfl⟩
  have htn:t<2^n:=by rw[<-ht];exact l0 hs omg
  rw[ht] at h
  have hL1:stF p most r s []=[]:=by
   by_cases e:stF p most r s []=[]
   ·exact e
   ·exact absurd h (sP (cS (Nat.zero_le _)).2.1 e)
  rw[hL1] at h
  have i1:=fun (R:Res) (g:R.σ)=>ih.nn R s g hs hL1
  have i2:=fun (R:Res) (g:R.σ)=>ih.nn R t g htn h
  refine spW (nt:=51) (rs:=[.tmp 10]) (k0:=0) ?_
  refine vcR [[1,1,1,1,1,1],[1,0,1,0],[1,1,0,1,0]] (lkL [(0,[1,2,3,4,5]),(1,[1,2,3,4,5,14]),(3,[1,2,3,4,5,18]),(7,[1,2,3,4,5]),(8,[1,2,3,4,5]),(9,[1,2,3,4,5])]) (lkL [(7,[(3,ROrc.kop (aj (KL.mk r Fz.may))),(6,ROrc.kcall (fz Fz.nil 0 0 fun (x x_1:Nat)=>any))]),(8,[(1,ROrc.val (Orc.obj (ap (ar n s))))])]) (fun Q=>(fun (u1:AObj)=>(fun (u2:AV)=>(fun (u3:AV)=>(fun (u4:AV)=>(fun (u5:Nat)=>(fun (u6:Int)=>(fun (u7:List (Nat × AV))=>(fun (u8:Int)=>(fun (u9:AV)=>(fun (u10:Bool)=>(u10=true->WpC Tryd.prog R 51 0 81 [1,0,1,0] Q [Kont.seq [1,1]] (St.mk [(1,u2),(2,u3),(3,int i64 u6),(4,u4),(5,ref 0 0),(14,AV.bool u10)] [u1] g))/\(u10=false->(false=true->WpC Tryd.prog R 51 0 81 [1,1,0,1,0] Q [Kont.seq [1,1,1]] (St.mk u7 [u1] g))/\(false=false->Flw Tryd.prog/\2<=2/\OpOk Tryd.prog R (Oper.mk (some 33) (Op.slice 53 (Operand.tmp 32) (some (Operand.const (Value.int i64 1))) none none) 53 "ref.go:338" #[Edge.mk 2 Ground.data] none) (evO [Row.mk (some 32) none u3 false (some []) [],Row.mk (some 31) none u2 false (some []) [],Row.mk (some 30) none (au p) false (some []) [0]] u7 []) [u1] g u9 [u1] g/\(true=true/\Does Tryd.prog R 81 [au p,u2,u9,int i64 u6,u4] [u1] g (ret u4) [u1] g)/\0<1/\u5*1<=ax/\u5<=ax/\(∀(c:Nat),c<u5*1->ap (ar n s) c=ap (ar n s) ((c-0)/1))/\((↑0:Int)<=0/\0<(↑(List.length (a::r)):Int))/\1<=1/\(0<=u8/\u8<(↑u5:Int))/\Int.toNat u8+1<=u5*1/\WpC Tryd.prog R 51 0 81 [1,1,1,1,1,1] Q [] (St.mk [(1,ow true 1 u5 1),(2,u3),(3,int i64 u6),(4,u4),(5,ref 0 0)] [u1,cells false (u5*1) (ah (ap (ar n s)) (Int.toNat u8) 1 fun x=>AV.bool true)] g)))) (decide ((↑0:Int) >= u6))) (fz Fz.may 1 (List.length r) fun i x=>ab r i)) (List.getD (a::r) 0 0)) ([(1,u2),(2,u3),(3,int i64 u6),(4,u4),(5,ref 0 0),(18,AV.bool false)])) ((↑most:Int))) (0+List.length (ar n s))) (fz Fz.nil 0 0 fun x x_1=>any)) (fz Fz.may 1 (List.length (a::r)) fun i x=>ab (a::r) i)) (fz Fz.auto 1 (List.length (ar n s)) fun i x=>ap (ar n s) i)) (cells false 2 (nth [int i64 p.atoms,ad p.rules]))) ⟨fun hcc=>(nomatch (hz0.symm.trans hcc)),fun _=>⟨fun h=>(nomatch h),fun _=>⟨krf,omg,?_,⟨rfl,(doS [] 1 (fun R g=>i1 R g))⟩,omg,omg,omg,?_,omg,omg,omg,omg,?_⟩⟩⟩
  ·exact dy (a:=a) krf
  ·intro c hc
   rw[Nat.sub_zero,Nat.div_one]
  ·refine br (fq 1 [(1,bT (ar n t)),(2,aj ⟨a::r,.may⟩),(3,.int .i64 most),(4,.fz .nil 0 0 (fun _ _=>.any)),(5,.ref 0 0)] [.cells false 2 (nth [.int .i64 p.atoms,ad p.rules])] omg (by show 1<=1+1;omega) rfl (fun i hi=>?_) ⟨f7 (o:=1) (by rw[cj,cj,Nat.zero_add]) (fun j=>?_) rfl (Nat.le_refl _),AC trivial,AC trivial,AC trivial,AC (show 0<1 by omega),trivial⟩) ?_
   ·match i,hi with
    |0,_=>exact⟨rfl,rfl,fun j hj=>match j,hj with|0,_=>AC trivial|1,_=>AC trivial⟩
   ·rw[<-ht]
    exact(f0 (by rw[hbs];show a.toNat<n;omega)).trans (by rw[<-gA (fun j=>eU hs) omg];rfl)
   ·refine vcR [] (lkL [(10,[10])]) (lkL [(10,[(3,ROrc.kop (aj (KL.mk r Fz.may))),(6,ROrc.kcall (fz Fz.nil 0 0 fun (x x_1:Nat)=>any))])]) (fun Q=>(fun (u1:List AObj)=>(fun (u2:AV)=>(fun (u3:AV)=>(fun (u4:AV)=>(fun (u5:AV)=>Flw Tryd.prog/\2<=2/\OpOk Tryd.prog R (Oper.mk (some 47) (Op.slice 53 (Operand.tmp 46) (some (Operand.const (Value.int i64 1))) none none) 53 "ref.go:341" #[Edge.mk 2 Ground.data] none) (evO [Row.mk (some 46) none u4 false (some []) [],Row.mk (some 45) none u2 false (some []) [],Row.mk (some 44) none (au p) false (some []) [0]] [(1,u2),(2,u4),(3,int i64 (↑most:Int)),(4,u3),(5,ref 0 0)] []) u1 g u5 u1 g/\(true=true/\Does Tryd.prog R 81 [au p,u2,u5,int i64 (↑most:Int),u3] u1 g (ret u3) u1 g)/\Q AEx.ret (St.mk [(10,u3)] u1 g)) (fz Fz.may 1 (List.length r) fun i x=>ab r i)) (fz Fz.may 1 (List.length (a::r)) fun i x=>ab (a::r) i)) (fz Fz.nil 0 0 fun x x_1=>any)) (fz Fz.auto 1 (List.length (ar n t)) fun i x=>ap (ar n t) i)) ([cells false 2 (nth [int i64 p.atoms,ad p.rules])])) ⟨krf,omg,?_,⟨rfl,(doS [] 1 (fun R g=>i2 R g))⟩,?_⟩
    ·exact dy (a:=a) krf
    ·refine(aw (bt _ _ rfl trivial trivial rfl) (Av _))
 ·intro R s m' L' g hs h hL' hm'
  have hbs:=hbl s
  rw[e0,if_neg (by show ¬0=most;omega)] at h
  obtain⟨t,ht⟩:∃t,s|||2^a.toNat=t:=⟨_,rfl⟩
  have htn:t<2^n:=by rw[<-ht];exact l0 hs omg
  rw[ht] at h
  obtain⟨L,hL⟩:∃L,stF p most r s []=L:=⟨_,rfl⟩
  have hlen:=cS (p:=p) (most:=most) (r:=r) (s:=s) (out:=[]) (Nat.zero_le _)
  rw[hL] at h hlen
  by_cases e:L=[]
  ·subst e
   have i1:=fun (R:Res) (g:R.σ)=>ih.nn R s g hs hL
   have i2:=fun (R:Res) (g:R.σ)=>ih.nw R t m' L' g htn h hL' hm'
   refine spW (nt:=51) (rs:=[.tmp 10]) (k0:=0) ?_
   refine vcR [[1,1,1,1,1,1],[1,0,1,0],[1,1,0,1,0]] (lkL [(0,[1,2,3,4,5]),(1,[1,2,3,4,5,14]),(3,[1,2,3,4,5,18]),(7,[1,2,3,4,5]),(8,[1,2,3,4,5]),(9,[1,2,3,4,5])]) (lkL [(7,[(3,ROrc.kop (aj (KL.mk r Fz.may))),(6,ROrc.kcall (fz Fz.nil 0 0 fun (x x_1:Nat)=>any))]),(8,[(1,ROrc.val (Orc.obj (ap (ar n s))))])]) (fun Q=>(fun (u1:AObj)=>(fun (u2:AV)=>(fun (u3:AV)=>(fun (u4:AV)=>(fun (u5:Nat)=>(fun (u6:Int)=>(fun (u7:List (Nat × AV))=>(fun (u8:Int)=>(fun (u9:AV)=>(fun (u10:Bool)=>(u10=true->WpC Tryd.prog R 51 0 81 [1,0,1,0] Q [Kont.seq [1,1]] (St.mk [(1,u2),(2,u3),(3,int i64 u6),(4,u4),(5,ref 0 0),(14,AV.bool u10)] [u1] g))/\(u10=false->(false=true->WpC Tryd.prog R 51 0 81 [1,1,0,1,0] Q [Kont.seq [1,1,1]] (St.mk u7 [u1] g))/\(false=false->Flw Tryd.prog/\2<=2/\OpOk Tryd.prog R (Oper.mk (some 33) (Op.slice 53 (Operand.tmp 32) (some (Operand.const (Value.int i64 1))) none none) 53 "ref.go:338" #[Edge.mk 2 Ground.data] none) (evO [Row.mk (some 32) none u3 false (some []) [],Row.mk (some 31) none u2 false (some []) [],Row.mk (some 30) none (au p) false (some []) [0]] u7 []) [u1] g u9 [u1] g/\(true=true/\Does Tryd.prog R 81 [au p,u2,u9,int i64 u6,u4] [u1] g (ret u4) [u1] g)/\0<1/\u5*1<=ax/\u5<=ax/\(∀(c:Nat),c<u5*1->ap (ar n s) c=ap (ar n s) ((c-0)/1))/\((↑0:Int)<=0/\0<(↑(List.length (a::r)):Int))/\1<=1/\(0<=u8/\u8<(↑u5:Int))/\Int.toNat u8+1<=u5*1/\WpC Tryd.prog R 51 0 81 [1,1,1,1,1,1] Q [] (St.mk [(1,ow true 1 u5 1),(2,u3),(3,int i64 u6),(4,u4),(5,ref 0 0)] [u1,cells false (u5*1) (ah (ap (ar n s)) (Int.toNat u8) 1 fun x=>AV.bool true)] g)))) (decide ((↑0:Int) >= u6))) (fz Fz.may 1 (List.length r) fun i x=>ab r i)) (List.getD (a::r) 0 0)) ([(1,u2),(2,u3),(3,int i64 u6),(4,u4),(5,ref 0 0),(18,AV.bool false)])) ((↑most:Int))) (0+List.length (ar n s))) (fz Fz.nil 0 0 fun x x_1=>any)) (fz Fz.may 1 (List.length (a::r)) fun i x=>ab (a::r) i)) (fz Fz.auto 1 (List.length (ar n s)) fun i x=>ap (ar n s) i)) (cells false 2 (nth [int i64 p.atoms,ad p.rules]))) ⟨fun hcc=>(nomatch (hz0.symm.trans hcc)),fun _=>⟨fun h=>(nomatch h),fun _=>⟨krf,omg,?_,⟨rfl,(doS [] 1 (fun R g=>i1 R g))⟩,omg,omg,omg,?_,omg,omg,omg,omg,?_⟩⟩⟩
   ·exact dy (a:=a) krf
   ·intro c hc
    rw[Nat.sub_zero,Nat.div_one]
   ·refine br (fq 1 [(1,bT (ar n t)),(2,aj ⟨a::r,.may⟩),(3,.int .i64 most),(4,.fz .nil 0 0 (fun _ _=>.any)),(5,.ref 0 0)] [.cells false 2 (nth [.int .i64 p.atoms,ad p.rules])] omg (by show 1<=1+1;omega) rfl (fun i hi=>?_) ⟨f7 (o:=1) (by rw[cj,cj,Nat.zero_add]) (fun j=>?_) rfl (Nat.le_refl _),AC trivial,AC trivial,AC trivial,AC (show 0<1 by omega),trivial⟩) ?_
    ·match i,hi with
     |0,_=>exact⟨rfl,rfl,fun j hj=>match j,hj with|0,_=>AC trivial|1,_=>AC trivial⟩
    ·rw[<-ht]
     exact(f0 (by rw[hbs];show a.toNat<n;omega)).trans (by rw[<-gA (fun j=>eU hs) omg];rfl)
    ·refine vcR [] (lkL [(10,[10])]) (lkL [(10,[(3,ROrc.kop (aj (KL.mk r Fz.may))),(6,ROrc.callN (ow true 1 m' 1) [] [cells false (m'*1) (aB L')] g)])]) (fun Q=>(fun (u1:AObj)=>(fun (u2:AV)=>(fun (u3:List AObj)=>(fun (u4:AV)=>(fun (u5:AV)=>Flw Tryd.prog/\2<=2/\OpOk Tryd.prog R (Oper.mk (some 47) (Op.slice 53 (Operand.tmp 46) (some (Operand.const (Value.int i64 1))) none none) 53 "ref.go:341" #[Edge.mk 2 Ground.data] none) (evO [Row.mk (some 46) none u4 false (some []) [],Row.mk (some 45) none u2 false (some []) [],Row.mk (some 44) none (au p) false (some []) [0]] [(1,u2),(2,u4),(3,int i64 (↑most:Int)),(4,fz Fz.nil 0 0 fun x x_1=>any),(5,ref 0 0)] []) [u1] g u5 [u1] g/\(true=true/\Does Tryd.prog R 81 [au p,u2,u5,int i64 (↑most:Int),fz Fz.nil 0 0 fun x x_1=>any] [u1] g (ret (ow true 1 m' 1)) u3 g)/\Q AEx.ret (St.mk [(10,ow true 1 m' 1)] u3 g)) (fz Fz.may 1 (List.length r) fun i x=>ab r i)) (fz Fz.may 1 (List.length (a::r)) fun i x=>ab (a::r) i)) ([u1,cells false (m'*1) fun a=>fz Fz.auto 1 (List.length (ag (List.getD L' a 0)).l) fun i x=>ab (ag (List.getD L' a 0)).l i])) (fz Fz.auto 1 (List.length (ar n t)) fun i x=>ap (ar n t) i)) (cells false 2 (nth [int i64 p.atoms,ad p.rules]))) ⟨krf,omg,?_,⟨rfl,(doS [] 1 (fun R g=>i2 R g))⟩,?_⟩
     ·exact dy (a:=a) krf
     ·show a9 Tryd.prog R 0 _ _ _ _ .ret _
      exact bY (.ow true 1 m' 1) _ rfl trivial (toS (s':=⟨[(0,.ow true 0 m' 1)],[.cells false (m'*1) (aB L')],g⟩) [1] 2)
  ·obtain⟨m,hmL⟩:∃m,m=L.length:=⟨_,rfl⟩
   have h0:0<m:=by rw[hmL];exact List.length_pos_iff.2 e
   have hmm:m<=most:=by rw[hmL];exact hlen.2.1
   have hlen2:=cS (p:=p) (most:=most) (r:=r) (s:=t) (out:=L) hlen.2.1
   rw[h] at hlen2
   have h0':0<m':=by omega
   have hmm':m'<=most:=by omega
   by_cases hmm1:m=m'
   ·have hLL:L'=L:=hlen2.2.2 omg
    subst hLL
    subst hmm1
    have i1:=fun (R:Res) (g:R.σ)=>ih.nw R s m L' g hs hL e hmL
    have i2:=fun (R:Res) (g:R.σ)=>ih.on R t m L' g htn e hmL hmm h
    refine spW (nt:=51) (rs:=[.tmp 10]) (k0:=0) ?_
    refine vcR [[1,1,1,1,1,1],[1,0,1,0],[1,1,0,1,0]] (lkL [(0,[1,2,3,4,5]),(1,[1,2,3,4,5,14]),(3,[1,2,3,4,5,18]),(7,[1,2,3,4,5]),(8,[1,2,3,4,5]),(9,[1,2,3,4,5])]) (lkL [(7,[(3,ROrc.kop (aj (KL.mk r Fz.may))),(6,ROrc.callN (ow true 1 m 1) [] [cells false (m*1) (aB L')] g)]),(8,[(1,ROrc.val (Orc.obj (ap (ar n s))))])]) (fun Q=>(fun (u1:AObj)=>(fun (u2:AV)=>(fun (u3:AV)=>(fun (u4:Nat)=>(fun (u5:AObj)=>(fun (u6:Int)=>(fun (u7:AV)=>(fun (u8:List (Nat × AV))=>(fun (u9:Int)=>(fun (u10:AV)=>(fun (u11:Bool)=>(u11=true->WpC Tryd.prog R 51 0 81 [1,0,1,0] Q [Kont.seq [1,1]] (St.mk [(1,u2),(2,u3),(3,int i64 u6),(4,u7),(5,ref 0 0),(14,AV.bool u11)] [u1] g))/\(u11=false->(false=true->WpC Tryd.prog R 51 0 81 [1,1,0,1,0] Q [Kont.seq [1,1,1]] (St.mk u8 [u1] g))/\(false=false->Flw Tryd.prog/\2<=2/\OpOk Tryd.prog R (Oper.mk (some 33) (Op.slice 53 (Operand.tmp 32) (some (Operand.const (Value.int i64 1))) none none) 53 "ref.go:338" #[Edge.mk 2 Ground.data] none) (evO [Row.mk (some 32) none u3 false (some []) [],Row.mk (some 31) none u2 false (some []) [],Row.mk (some 30) none (au p) false (some []) [0]] u8 []) [u1] g u10 [u1] g/\(true=true/\Does Tryd.prog R 81 [au p,u2,u10,int i64 u6,u7] [u1] g (ret (ow true 1 m 1)) [u1,u5] g)/\0<1/\u4*1<=ax/\u4<=ax/\(∀(c:Nat),c<u4*1->ap (ar n s) c=ap (ar n s) ((c-0)/1))/\((↑0:Int)<=0/\0<(↑(List.length (a::r)):Int))/\1<=1/\(0<=u9/\u9<(↑u4:Int))/\Int.toNat u9+1<=u4*1/\WpC Tryd.prog R 51 0 81 [1,1,1,1,1,1] Q [] (St.mk [(1,ow true 2 u4 1),(2,u3),(3,int i64 u6),(4,ow true 1 m 1),(5,ref 0 0)] [u1,u5,cells false (u4*1) (ah (ap (ar n s)) (Int.toNat u9) 1 fun x=>AV.bool true)] g)))) (decide ((↑0:Int) >= u6))) (fz Fz.may 1 (List.length r) fun i x=>ab r i)) (List.getD (a::r) 0 0)) ([(1,u2),(2,u3),(3,int i64 u6),(4,u7),(5,ref 0 0),(18,AV.bool false)])) (fz Fz.nil 0 0 fun x x_1=>any)) ((↑most:Int))) (cells false (m*1) fun a=>fz Fz.auto 1 (List.length (ag (List.getD L' a 0)).l) fun i x=>ab (ag (List.getD L' a 0)).l i)) (0+List.length (ar n s))) (fz Fz.may 1 (List.length (a::r)) fun i x=>ab (a::r) i)) (fz Fz.auto 1 (List.length (ar n s)) fun i x=>ap (ar n s) i)) (cells false 2 (nth [int i64 p.atoms,ad p.rules]))) ⟨fun hcc=>(nomatch (hz0.symm.trans hcc)),fun _=>⟨fun h=>(nomatch h),fun _=>⟨krf,omg,?_,⟨rfl,(doS [] 1 (fun R g=>i1 R g))⟩,omg,omg,omg,?_,omg,omg,omg,omg,?_⟩⟩⟩
    ·exact dy (a:=a) krf
    ·intro c hc
     rw[Nat.sub_zero,Nat.div_one]
    ·refine br (fq 2 [(1,bT (ar n t)),(2,aj ⟨a::r,.may⟩),(3,.int .i64 most),(4,.ow true 1 m 1),(5,.ref 0 0)] [.cells false 2 (nth [.int .i64 p.atoms,ad p.rules]),.cells false (m*1) (aB L')] omg (by show 2<=2+1;omega) rfl (fun i hi=>?_) ⟨f7 (o:=2) (by rw[cj,cj,Nat.zero_add]) (fun j=>?_) rfl (Nat.le_refl _),AC trivial,AC trivial,AC (show 1<2 by omega),AC (show 0<2 by omega),trivial⟩) ?_
     ·match i,hi with
      |0,_=>exact⟨rfl,rfl,fun j hj=>match j,hj with|0,_=>AC trivial|1,_=>AC trivial⟩
      |1,_=>exact⟨rfl,rfl,fun j hj=>AC (dp _ _)⟩
     ·rw[<-ht]
      exact(f0 (by rw[hbs];show a.toNat<n;omega)).trans (by rw[<-gA (fun j=>eU hs) omg];rfl)
     ·refine vcR [] (lkL [(10,[10])]) (lkL [(10,[(3,ROrc.kop (aj (KL.mk r Fz.may))),(6,ROrc.kcall (ow true 1 m 1))])]) (fun Q=>(fun (u1:List AObj)=>(fun (u2:AV)=>(fun (u3:AV)=>(fun (u4:AV)=>Flw Tryd.prog/\2<=2/\OpOk Tryd.prog R (Oper.mk (some 47) (Op.slice 53 (Operand.tmp 46) (some (Operand.const (Value.int i64 1))) none none) 53 "ref.go:341" #[Edge.mk 2 Ground.data] none) (evO [Row.mk (some 46) none u3 false (some []) [],Row.mk (some 45) none u2 false (some []) [],Row.mk (some 44) none (au p) false (some []) [0]] [(1,u2),(2,u3),(3,int i64 (↑most:Int)),(4,ow true 1 m 1),(5,ref 0 0)] []) u1 g u4 u1 g/\(true=true/\Does Tryd.prog R 81 [au p,u2,u4,int i64 (↑most:Int),ow true 1 m 1] u1 g (ret (ow true 1 m 1)) u1 g)/\Q AEx.ret (St.mk [(10,ow true 1 m 1)] u1 g)) (fz Fz.may 1 (List.length r) fun i x=>ab r i)) (fz Fz.may 1 (List.length (a::r)) fun i x=>ab (a::r) i)) (fz Fz.auto 1 (List.length (ar n t)) fun i x=>ap (ar n t) i)) ([cells false 2 (nth [int i64 p.atoms,ad p.rules]),cells false (m*1) fun a=>fz Fz.auto 1 (List.length (ag (List.getD L' a 0)).l) fun i x=>ab (ag (List.getD L' a 0)).l i])) ⟨krf,omg,?_,⟨rfl,(doS [1] 2 (fun R g=>i2 R g))⟩,?_⟩
      ·exact dy (a:=a) krf
      ·show a9 Tryd.prog R 0 _ _ _ _ .ret _
       exact bY (.ow true 1 m 1) _ rfl trivial (toS (s':=⟨[(0,.ow true 0 m 1)],[.cells false (m*1) (aB L')],g⟩) [1] 2)
   ·skip
    have i1:=fun (R:Res) (g:R.σ)=>ih.nw R s m L g hs hL e hmL
    have i2:=fun (R:Res) (g:R.σ)=>ih.ow R t m m' L L' g htn e hmL hmm h hm' hmm1
    refine spW (nt:=51) (rs:=[.tmp 10]) (k0:=0) ?_
    refine vcR [[1,1,1,1,1,1],[1,0,1,0],[1,1,0,1,0]] (lkL [(0,[1,2,3,4,5]),(1,[1,2,3,4,5,14]),(3,[1,2,3,4,5,18]),(7,[1,2,3,4,5]),(8,[1,2,3,4,5]),(9,[1,2,3,4,5])]) (lkL [(7,[(3,ROrc.kop (aj (KL.mk r Fz.may))),(6,ROrc.callN (ow true 1 m 1) [] [cells false (m*1) (aB L)] g)]),(8,[(1,ROrc.val (Orc.obj (ap (ar n s))))])]) (fun Q=>(fun (u1:AObj)=>(fun (u2:AV)=>(fun (u3:AV)=>(fun (u4:Nat)=>(fun (u5:AObj)=>(fun (u6:Int)=>(fun (u7:AV)=>(fun (u8:List (Nat × AV))=>(fun (u9:Int)=>(fun (u10:AV)=>(fun (u11:Bool)=>(u11=true->WpC Tryd.prog R 51 0 81 [1,0,1,0] Q [Kont.seq [1,1]] (St.mk [(1,u2),(2,u3),(3,int i64 u6),(4,u7),(5,ref 0 0),(14,AV.bool u11)] [u1] g))/\(u11=false->(false=true->WpC Tryd.prog R 51 0 81 [1,1,0,1,0] Q [Kont.seq [1,1,1]] (St.mk u8 [u1] g))/\(false=false->Flw Tryd.prog/\2<=2/\OpOk Tryd.prog R (Oper.mk (some 33) (Op.slice 53 (Operand.tmp 32) (some (Operand.const (Value.int i64 1))) none none) 53 "ref.go:338" #[Edge.mk 2 Ground.data] none) (evO [Row.mk (some 32) none u3 false (some []) [],Row.mk (some 31) none u2 false (some []) [],Row.mk (some 30) none (au p) false (some []) [0]] u8 []) [u1] g u10 [u1] g/\(true=true/\Does Tryd.prog R 81 [au p,u2,u10,int i64 u6,u7] [u1] g (ret (ow true 1 m 1)) [u1,u5] g)/\0<1/\u4*1<=ax/\u4<=ax/\(∀(c:Nat),c<u4*1->ap (ar n s) c=ap (ar n s) ((c-0)/1))/\((↑0:Int)<=0/\0<(↑(List.length (a::r)):Int))/\1<=1/\(0<=u9/\u9<(↑u4:Int))/\Int.toNat u9+1<=u4*1/\WpC Tryd.prog R 51 0 81 [1,1,1,1,1,1] Q [] (St.mk [(1,ow true 2 u4 1),(2,u3),(3,int i64 u6),(4,ow true 1 m 1),(5,ref 0 0)] [u1,u5,cells false (u4*1) (ah (ap (ar n s)) (Int.toNat u9) 1 fun x=>AV.bool true)] g)))) (decide ((↑0:Int) >= u6))) (fz Fz.may 1 (List.length r) fun i x=>ab r i)) (List.getD (a::r) 0 0)) ([(1,u2),(2,u3),(3,int i64 u6),(4,u7),(5,ref 0 0),(18,AV.bool false)])) (fz Fz.nil 0 0 fun x x_1=>any)) ((↑most:Int))) (cells false (m*1) fun a=>fz Fz.auto 1 (List.length (ag (List.getD L a 0)).l) fun i x=>ab (ag (List.getD L a 0)).l i)) (0+List.length (ar n s))) (fz Fz.may 1 (List.length (a::r)) fun i x=>ab (a::r) i)) (fz Fz.auto 1 (List.length (ar n s)) fun i x=>ap (ar n s) i)) (cells false 2 (nth [int i64 p.atoms,ad p.rules]))) ⟨fun hcc=>(nomatch (hz0.symm.trans hcc)),fun _=>⟨fun h=>(nomatch h),fun _=>⟨krf,omg,?_,⟨rfl,(doS [] 1 (fun R g=>i1 R g))⟩,omg,omg,omg,?_,omg,omg,omg,omg,?_⟩⟩⟩
    ·exact dy (a:=a) krf
    ·intro c hc
     rw[Nat.sub_zero,Nat.div_one]
    ·refine br (fq 2 [(1,bT (ar n t)),(2,aj ⟨a::r,.may⟩),(3,.int .i64 most),(4,.ow true 1 m 1),(5,.ref 0 0)] [.cells false 2 (nth [.int .i64 p.atoms,ad p.rules]),.cells false (m*1) (aB L)] omg (by show 2<=2+1;omega) rfl (fun i hi=>?_) ⟨f7 (o:=2) (by rw[cj,cj,Nat.zero_add]) (fun j=>?_) rfl (Nat.le_refl _),AC trivial,AC trivial,AC (show 1<2 by omega),AC (show 0<2 by omega),trivial⟩) ?_
     ·match i,hi with
      |0,_=>exact⟨rfl,rfl,fun j hj=>match j,hj with|0,_=>AC trivial|1,_=>AC trivial⟩
      |1,_=>exact⟨rfl,rfl,fun j hj=>AC (dp _ _)⟩
     ·rw[<-ht]
      exact(f0 (by rw[hbs];show a.toNat<n;omega)).trans (by rw[<-gA (fun j=>eU hs) omg];rfl)
     ·refine vcR [] (lkL [(10,[10])]) (lkL [(10,[(3,ROrc.kop (aj (KL.mk r Fz.may))),(6,ROrc.callN (ow true 2 m' 1) [(1,dead)] [cells false (m'*1) (aB L')] g)])]) (fun Q=>(fun (u1:List AObj)=>(fun (u2:List AObj)=>(fun (u3:AV)=>(fun (u4:AV)=>(fun (u5:AV)=>Flw Tryd.prog/\2<=2/\OpOk Tryd.prog R (Oper.mk (some 47) (Op.slice 53 (Operand.tmp 46) (some (Operand.const (Value.int i64 1))) none none) 53 "ref.go:341" #[Edge.mk 2 Ground.data] none) (evO [Row.mk (some 46) none u4 false (some []) [],Row.mk (some 45) none u3 false (some []) [],Row.mk (some 44) none (au p) false (some []) [0]] [(1,u3),(2,u4),(3,int i64 (↑most:Int)),(4,ow true 1 m 1),(5,ref 0 0)] []) u1 g u5 u1 g/\(true=true/\Does Tryd.prog R 81 [au p,u3,u5,int i64 (↑most:Int),ow true 1 m 1] u1 g (ret (ow true 2 m' 1)) u2 g)/\Q AEx.ret (St.mk [(10,ow true 2 m' 1)] u2 g)) (fz Fz.may 1 (List.length r) fun i x=>ab r i)) (fz Fz.may 1 (List.length (a::r)) fun i x=>ab (a::r) i)) (fz Fz.auto 1 (List.length (ar n t)) fun i x=>ap (ar n t) i)) ([cells false 2 (nth [int i64 p.atoms,ad p.rules]),dead,cells false (m'*1) fun a=>fz Fz.auto 1 (List.length (ag (List.getD L' a 0)).l) fun i x=>ab (ag (List.getD L' a 0)).l i])) ([cells false 2 (nth [int i64 p.atoms,ad p.rules]),cells false (m*1) fun a=>fz Fz.auto 1 (List.length (ag (List.getD L a 0)).l) fun i x=>ab (ag (List.getD L a 0)).l i])) ⟨krf,omg,?_,⟨rfl,(doS [1] 2 (fun R g=>i2 R g))⟩,?_⟩
      ·exact dy (a:=a) krf
      ·show a9 Tryd.prog R 0 _ _ _ _ .ret _
       exact bY (.ow true 2 m' 1) _ rfl trivial (toS (s':=⟨[(0,.ow true 0 m' 1)],[.cells false (m'*1) (aB L')],g⟩) [2] 3)
 ·intro R s m L g hs hL hmL hmm h
  rw[e0] at h
  have hbs:=hbl s
  have h0:0<m:=by rw[hmL];exact List.length_pos_iff.2 hL
  by_cases hf:m=most
  ·have hz:decide ((m:Int) >= (most:Int))=true:=decide_eq_true omg
   refine spW (nt:=51) (rs:=[.tmp 10]) (k0:=1) ?_
   refine vcR [[1,0,1,1]] (lkL [(0,[1,2,3,4,5]),(1,[1,2,3,4,5,14]),(2,[10])]) (fun _=>[]) (fun Q=>(fun (u1:List AObj)=>(fun (u2:Int)=>(fun (u3:Bool)=>(u3=true->Q AEx.ret (St.mk [(10,ow true 0 m 1)] u1 g))/\(u3=false->WpC Tryd.prog R 51 1 81 [1,0,1,1] Q [Kont.seq [1,1]] (St.mk [(1,fz Fz.auto 1 (List.length (ar n s)) fun i x=>ap (ar n s) i),(2,fz Fz.may 1 (List.length (a::r)) fun i x=>ab (a::r) i),(3,int i64 u2),(4,ow true 0 m 1),(5,ref 1 0),(14,AV.bool u3)] u1 g))) (decide ((↑m:Int) >= u2))) ((↑most:Int))) ([cells false (m*1) fun a=>fz Fz.auto 1 (List.length (ag (List.getD L a 0)).l) fun i x=>ab (ag (List.getD L a 0)).l i,cells false 2 (nth [int i64 p.atoms,ad p.rules])])) ⟨fun _=>?_,fun hcc=>(nomatch (hz.symm.trans hcc))⟩
   refine(aw (bv 1 _ _ rfl trivial omg (show 1<=1 by omega) ⟨(fun _ _=>trivial),trivial⟩ krf rfl rfl) (Av _))
  ·have hz:decide ((m:Int) >= (most:Int))=false:=decide_eq_false omg
   rw[if_neg omg] at h
   obtain⟨t,ht⟩:∃t,s|||2^a.toNat=t:=⟨_,rfl⟩
   have htn:t<2^n:=by rw[<-ht];exact l0 hs omg
   rw[ht] at h
   have hlen:=cS (p:=p) (most:=most) (r:=r) (s:=s) (out:=L) omg
   have hlen2:=cS (p:=p) (most:=most) (r:=r) (s:=t) (out:=stF p most r s L) hlen.2.1
   rw[h] at hlen2
   have hL1:=hlen.2.2 omg
   rw[hL1] at h
   have i1:=fun (R:Res) (g:R.σ)=>ih.on R s m L g hs hL hmL hmm hL1
   have i2:=fun (R:Res) (g:R.σ)=>ih.on R t m L g htn hL hmL hmm h
   refine spW (nt:=51) (rs:=[.tmp 10]) (k0:=1) ?_
   refine vcR [[1,1,1,1,1,1],[1,0,1,0],[1,1,0,1,0]] (lkL [(0,[1,2,3,4,5]),(1,[1,2,3,4,5,14]),(3,[1,2,3,4,5,18]),(7,[1,2,3,4,5]),(8,[1,2,3,4,5]),(9,[1,2,3,4,5])]) (lkL [(7,[(3,ROrc.kop (aj (KL.mk r Fz.may))),(6,ROrc.kcall (ow true 0 m 1))]),(8,[(1,ROrc.val (Orc.obj (ap (ar n s))))])]) (fun Q=>(fun (u1:List AObj)=>(fun (u2:AV)=>(fun (u3:AV)=>(fun (u4:Nat)=>(fun (u5:Int)=>(fun (u6:List (Nat × AV))=>(fun (u7:Int)=>(fun (u8:AV)=>(fun (u9:Bool)=>(u9=true->WpC Tryd.prog R 51 1 81 [1,0,1,0] Q [Kont.seq [1,1]] (St.mk [(1,u2),(2,u3),(3,int i64 u5),(4,ow true 0 m 1),(5,ref 1 0),(14,AV.bool u9)] u1 g))/\(u9=false->(false=true->WpC Tryd.prog R 51 1 81 [1,1,0,1,0] Q [Kont.seq [1,1,1]] (St.mk u6 u1 g))/\(false=false->Flw Tryd.prog/\2<=2/\OpOk Tryd.prog R (Oper.mk (some 33) (Op.slice 53 (Operand.tmp 32) (some (Operand.const (Value.int i64 1))) none none) 53 "ref.go:338" #[Edge.mk 2 Ground.data] none) (evO [Row.mk (some 32) none u3 false (some []) [],Row.mk (some 31) none u2 false (some []) [],Row.mk (some 30) none (au p) false (some []) [1]] u6 []) u1 g u8 u1 g/\(true=true/\Does Tryd.prog R 81 [au p,u2,u8,int i64 u5,ow true 0 m 1] u1 g (ret (ow true 0 m 1)) u1 g)/\0<1/\u4*1<=ax/\u4<=ax/\(∀(c:Nat),c<u4*1->ap (ar n s) c=ap (ar n s) ((c-0)/1))/\((↑0:Int)<=0/\0<(↑(List.length (a::r)):Int))/\1<=1/\(0<=u7/\u7<(↑u4:Int))/\Int.toNat u7+1<=u4*1/\WpC Tryd.prog R 51 1 81 [1,1,1,1,1,1] Q [] (St.mk [(1,ow true 2 u4 1),(2,u3),(3,int i64 u5),(4,ow true 0 m 1),(5,ref 1 0)] [cells false (m*1) fun a=>fz Fz.auto 1 (List.length (ag (List.getD L a 0)).l) fun i x=>ab (ag (List.getD L a 0)).l i,cells false 2 (nth [int i64 p.atoms,ad p.rules]),cells false (u4*1) (ah (ap (ar n s)) (Int.toNat u7) 1 fun x=>AV.bool true)] g)))) (decide ((↑m:Int) >= u5))) (fz Fz.may 1 (List.length r) fun i x=>ab r i)) (List.getD (a::r) 0 0)) ([(1,u2),(2,u3),(3,int i64 u5),(4,ow true 0 m 1),(5,ref 1 0),(18,AV.bool false)])) ((↑most:Int))) (0+List.length (ar n s))) (fz Fz.may 1 (List.length (a::r)) fun i x=>ab (a::r) i)) (fz Fz.auto 1 (List.length (ar n s)) fun i x=>ap (ar n s) i)) ([cells false (m*1) fun a=>fz Fz.auto 1 (List.length (ag (List.getD L a 0)).l) fun i x=>ab (ag (List.getD L a 0)).l i,cells false 2 (nth [int i64 p.atoms,ad p.rules])])) ⟨fun hcc=>(nomatch (hz.symm.trans hcc)),fun _=>⟨fun h=>(nomatch h),fun _=>⟨krf,omg,?_,⟨rfl,(doS [0] 2 (fun R g=>i1 R g))⟩,omg,omg,omg,?_,omg,omg,omg,omg,?_⟩⟩⟩
   ·exact dy (a:=a) krf
   ·intro c hc
    rw[Nat.sub_zero,Nat.div_one]
   ·refine br (fq 2 [(1,bT (ar n t)),(2,aj ⟨a::r,.may⟩),(3,.int .i64 most),(4,.ow true 0 m 1),(5,.ref 1 0)] [.cells false (m*1) (aB L),.cells false 2 (nth [.int .i64 p.atoms,ad p.rules])] omg (by show 2<=2+1;omega) rfl (fun i hi=>?_) ⟨f7 (o:=2) (by rw[cj,cj,Nat.zero_add]) (fun j=>?_) rfl (Nat.le_refl _),AC trivial,AC trivial,AC (show 0<2 by omega),AC (show 1<2 by omega),trivial⟩) ?_
    ·match i,hi with
     |0,_=>exact⟨rfl,rfl,fun j hj=>AC (dp _ _)⟩
     |1,_=>exact⟨rfl,rfl,fun j hj=>match j,hj with|0,_=>AC trivial|1,_=>AC trivial⟩
    ·rw[<-ht]
     exact(f0 (by rw[hbs];show a.toNat<n;omega)).trans (by rw[<-gA (fun j=>eU hs) omg];rfl)
    ·refine vcR [] (lkL [(10,[10])]) (lkL [(10,[(3,ROrc.kop (aj (KL.mk r Fz.may))),(6,ROrc.kcall (ow true 0 m 1))])]) (fun Q=>(fun (u1:List AObj)=>(fun (u2:AV)=>(fun (u3:AV)=>(fun (u4:AV)=>Flw Tryd.prog/\2<=2/\OpOk Tryd.prog R (Oper.mk (some 47) (Op.slice 53 (Operand.tmp 46) (some (Operand.const (Value.int i64 1))) none none) 53 "ref.go:341" #[Edge.mk 2 Ground.data] none) (evO [Row.mk (some 46) none u3 false (some []) [],Row.mk (some 45) none u2 false (some []) [],Row.mk (some 44) none (au p) false (some []) [1]] [(1,u2),(2,u3),(3,int i64 (↑most:Int)),(4,ow true 0 m 1),(5,ref 1 0)] []) u1 g u4 u1 g/\(true=true/\Does Tryd.prog R 81 [au p,u2,u4,int i64 (↑most:Int),ow true 0 m 1] u1 g (ret (ow true 0 m 1)) u1 g)/\Q AEx.ret (St.mk [(10,ow true 0 m 1)] u1 g)) (fz Fz.may 1 (List.length r) fun i x=>ab r i)) (fz Fz.may 1 (List.length (a::r)) fun i x=>ab (a::r) i)) (fz Fz.auto 1 (List.length (ar n t)) fun i x=>ap (ar n t) i)) ([cells false (m*1) fun a=>fz Fz.auto 1 (List.length (ag (List.getD L a 0)).l) fun i x=>ab (ag (List.getD L a 0)).l i,cells false 2 (nth [int i64 p.atoms,ad p.rules])])) ⟨krf,omg,?_,⟨rfl,(doS [0] 2 (fun R g=>i2 R g))⟩,?_⟩
     ·exact dy (a:=a) krf
     ·refine(aw (bv 1 _ _ rfl trivial omg (show 1<=1 by omega) ⟨(fun _ _=>trivial),trivial⟩ krf rfl rfl) (Av _))
 ·intro R s m m' L L' g hs hL hmL hmm h hm' hne
  rw[e0] at h
  have hbs:=hbl s
  have h0:0<m:=by rw[hmL];exact List.length_pos_iff.2 hL
  have hf:¬m=most:=fun e=>by
   rw[if_pos omg] at h
   subst h
   omega
  have hz:decide ((m:Int) >= (most:Int))=false:=decide_eq_false omg
  rw[if_neg omg] at h
  obtain⟨t,ht⟩:∃t,s|||2^a.toNat=t:=⟨_,rfl⟩
  have htn:t<2^n:=by rw[<-ht];exact l0 hs omg
  rw[ht] at h
  have hlen:=cS (p:=p) (most:=most) (r:=r) (s:=s) (out:=L) omg
  obtain⟨L1,hL1⟩:∃L1,stF p most r s L=L1:=⟨_,rfl⟩
  obtain⟨m1,hm1⟩:∃m1,m1=L1.length:=⟨_,rfl⟩
  rw[hL1] at h hlen
  have hlen2:=cS (p:=p) (most:=most) (r:=r) (s:=t) (out:=L1) hlen.2.1
  rw[h] at hlen2
  have h01:0<m1:=by omega
  have h0':0<m':=by omega
  have hL1n:L1≠[]:=List.length_pos_iff.1 omg
  have hmm1:m1<=most:=by omega
  have hmm':m'<=most:=by omega
  by_cases e1:m=m1
  ·have hLL:L1=L:=hlen.2.2 omg
   subst hLL
   have i1:=fun (R:Res) (g:R.σ)=>ih.on R s m L1 g hs hL hmL hmm hL1
   have i2:=fun (R:Res) (g:R.σ)=>ih.ow R t m m' L1 L' g htn hL hmL hmm h hm' hne
   refine spW (nt:=51) (rs:=[.tmp 10]) (k0:=1) ?_
   refine vcR [[1,1,1,1,1,1],[1,0,1,0],[1,1,0,1,0]] (lkL [(0,[1,2,3,4,5]),(1,[1,2,3,4,5,14]),(3,[1,2,3,4,5,18]),(7,[1,2,3,4,5]),(8,[1,2,3,4,5]),(9,[1,2,3,4,5])]) (lkL [(7,[(3,ROrc.kop (aj (KL.mk r Fz.may))),(6,ROrc.kcall (ow true 0 m 1))]),(8,[(1,ROrc.val (Orc.obj (ap (ar n s))))])]) (fun Q=>(fun (u1:List AObj)=>(fun (u2:AV)=>(fun (u3:AV)=>(fun (u4:Nat)=>(fun (u5:Int)=>(fun (u6:List (Nat × AV))=>(fun (u7:Int)=>(fun (u8:AV)=>(fun (u9:Bool)=>(u9=true->WpC Tryd.prog R 51 1 81 [1,0,1,0] Q [Kont.seq [1,1]] (St.mk [(1,u2),(2,u3),(3,int i64 u5),(4,ow true 0 m 1),(5,ref 1 0),(14,AV.bool u9)] u1 g))/\(u9=false->(false=true->WpC Tryd.prog R 51 1 81 [1,1,0,1,0] Q [Kont.seq [1,1,1]] (St.mk u6 u1 g))/\(false=false->Flw Tryd.prog/\2<=2/\OpOk Tryd.prog R (Oper.mk (some 33) (Op.slice 53 (Operand.tmp 32) (some (Operand.const (Value.int i64 1))) none none) 53 "ref.go:338" #[Edge.mk 2 Ground.data] none) (evO [Row.mk (some 32) none u3 false (some []) [],Row.mk (some 31) none u2 false (some []) [],Row.mk (some 30) none (au p) false (some []) [1]] u6 []) u1 g u8 u1 g/\(true=true/\Does Tryd.prog R 81 [au p,u2,u8,int i64 u5,ow true 0 m 1] u1 g (ret (ow true 0 m 1)) u1 g)/\0<1/\u4*1<=ax/\u4<=ax/\(∀(c:Nat),c<u4*1->ap (ar n s) c=ap (ar n s) ((c-0)/1))/\((↑0:Int)<=0/\0<(↑(List.length (a::r)):Int))/\1<=1/\(0<=u7/\u7<(↑u4:Int))/\Int.toNat u7+1<=u4*1/\WpC Tryd.prog R 51 1 81 [1,1,1,1,1,1] Q [] (St.mk [(1,ow true 2 u4 1),(2,u3),(3,int i64 u5),(4,ow true 0 m 1),(5,ref 1 0)] [cells false (m*1) fun a=>fz Fz.auto 1 (List.length (ag (List.getD L1 a 0)).l) fun i x=>ab (ag (List.getD L1 a 0)).l i,cells false 2 (nth [int i64 p.atoms,ad p.rules]),cells false (u4*1) (ah (ap (ar n s)) (Int.toNat u7) 1 fun x=>AV.bool true)] g)))) (decide ((↑m:Int) >= u5))) (fz Fz.may 1 (List.length r) fun i x=>ab r i)) (List.getD (a::r) 0 0)) ([(1,u2),(2,u3),(3,int i64 u5),(4,ow true 0 m 1),(5,ref 1 0),(18,AV.bool false)])) ((↑most:Int))) (0+List.length (ar n s))) (fz Fz.may 1 (List.length (a::r)) fun i x=>ab (a::r) i)) (fz Fz.auto 1 (List.length (ar n s)) fun i x=>ap (ar n s) i)) ([cells false (m*1) fun a=>fz Fz.auto 1 (List.length (ag (List.getD L1 a 0)).l) fun i x=>ab (ag (List.getD L1 a 0)).l i,cells false 2 (nth [int i64 p.atoms,ad p.rules])])) ⟨fun hcc=>(nomatch (hz.symm.trans hcc)),fun _=>⟨fun h=>(nomatch h),fun _=>⟨krf,omg,?_,⟨rfl,(doS [0] 2 (fun R g=>i1 R g))⟩,omg,omg,omg,?_,omg,omg,omg,omg,?_⟩⟩⟩
   ·exact dy (a:=a) krf
   ·intro c hc
    rw[Nat.sub_zero,Nat.div_one]
   ·refine br (fq 2 [(1,bT (ar n t)),(2,aj ⟨a::r,.may⟩),(3,.int .i64 most),(4,.ow true 0 m 1),(5,.ref 1 0)] [.cells false (m*1) (aB L1),.cells false 2 (nth [.int .i64 p.atoms,ad p.rules])] omg (by show 2<=2+1;omega) rfl (fun i hi=>?_) ⟨f7 (o:=2) (by rw[cj,cj,Nat.zero_add]) (fun j=>?_) rfl (Nat.le_refl _),AC trivial,AC trivial,AC (show 0<2 by omega),AC (show 1<2 by omega),trivial⟩) ?_
    ·match i,hi with
     |0,_=>exact⟨rfl,rfl,fun j hj=>AC (dp _ _)⟩
     |1,_=>exact⟨rfl,rfl,fun j hj=>match j,hj with|0,_=>AC trivial|1,_=>AC trivial⟩
    ·rw[<-ht]
     exact(f0 (by rw[hbs];show a.toNat<n;omega)).trans (by rw[<-gA (fun j=>eU hs) omg];rfl)
    ·refine vcR [] (lkL [(10,[10])]) (lkL [(10,[(3,ROrc.kop (aj (KL.mk r Fz.may))),(6,ROrc.callN (ow true 2 m' 1) [(0,dead)] [cells false (m'*1) (aB L')] g)])]) (fun Q=>(fun (u1:List AObj)=>(fun (u2:List AObj)=>(fun (u3:AV)=>(fun (u4:AV)=>(fun (u5:AV)=>Flw Tryd.prog/\2<=2/\OpOk Tryd.prog R (Oper.mk (some 47) (Op.slice 53 (Operand.tmp 46) (some (Operand.const (Value.int i64 1))) none none) 53 "ref.go:341" #[Edge.mk 2 Ground.data] none) (evO [Row.mk (some 46) none u4 false (some []) [],Row.mk (some 45) none u3 false (some []) [],Row.mk (some 44) none (au p) false (some []) [1]] [(1,u3),(2,u4),(3,int i64 (↑most:Int)),(4,ow true 0 m 1),(5,ref 1 0)] []) u1 g u5 u1 g/\(true=true/\Does Tryd.prog R 81 [au p,u3,u5,int i64 (↑most:Int),ow true 0 m 1] u1 g (ret (ow true 2 m' 1)) u2 g)/\Q AEx.ret (St.mk [(10,ow true 2 m' 1)] u2 g)) (fz Fz.may 1 (List.length r) fun i x=>ab r i)) (fz Fz.may 1 (List.length (a::r)) fun i x=>ab (a::r) i)) (fz Fz.auto 1 (List.length (ar n t)) fun i x=>ap (ar n t) i)) ([dead,cells false 2 (nth [int i64 p.atoms,ad p.rules]),cells false (m'*1) fun a=>fz Fz.auto 1 (List.length (ag (List.getD L' a 0)).l) fun i x=>ab (ag (List.getD L' a 0)).l i])) ([cells false (m*1) fun a=>fz Fz.auto 1 (List.length (ag (List.getD L1 a 0)).l) fun i x=>ab (ag (List.getD L1 a 0)).l i,cells false 2 (nth [int i64 p.atoms,ad p.rules])])) ⟨krf,omg,?_,⟨rfl,(doS [0] 2 (fun R g=>i2 R g))⟩,?_⟩
     ·exact dy (a:=a) krf
     ·show a9 Tryd.prog R 1 _ _ _ _ .ret _
      exact bY (.ow true 2 m' 1) _ rfl trivial (toS (s':=⟨[(0,.ow true 1 m' 1)],[.dead,.cells false (m'*1) (aB L')],g⟩) [0,2] 3)
  ·by_cases e2:m1=m'
   ·have hLL:L'=L1:=hlen2.2.2 omg
    subst hLL
    subst e2
    have i1:=fun (R:Res) (g:R.σ)=>ih.ow R s m m1 L L' g hs hL hmL hmm hL1 hm1 e1
    have i2:=fun (R:Res) (g:R.σ)=>ih.on R t m1 L' g htn hL1n hm1 hmm1 h
    refine spW (nt:=51) (rs:=[.tmp 10]) (k0:=1) ?_
    refine vcR [[1,1,1,1,1,1],[1,0,1,0],[1,1,0,1,0]] (lkL [(0,[1,2,3,4,5]),(1,[1,2,3,4,5,14]),(3,[1,2,3,4,5,18]),(7,[1,2,3,4,5]),(8,[1,2,3,4,5]),(9,[1,2,3,4,5])]) (lkL [(7,[(3,ROrc.kop (aj (KL.mk r Fz.may))),(6,ROrc.callN (ow true 2 m1 1) [(0,dead)] [cells false (m1*1) (aB L')] g)]),(8,[(1,ROrc.val (Orc.obj (ap (ar n s))))])]) (fun Q=>(fun (u1:List AObj)=>(fun (u2:AV)=>(fun (u3:AV)=>(fun (u4:Nat)=>(fun (u5:AObj)=>(fun (u6:Int)=>(fun (u7:List (Nat × AV))=>(fun (u8:Int)=>(fun (u9:AV)=>(fun (u10:AObj)=>(fun (u11:Bool)=>(u11=true->WpC Tryd.prog R 51 1 81 [1,0,1,0] Q [Kont.seq [1,1]] (St.mk [(1,u2),(2,u3),(3,int i64 u6),(4,ow true 0 m 1),(5,ref 1 0),(14,AV.bool u11)] u1 g))/\(u11=false->(false=true->WpC Tryd.prog R 51 1 81 [1,1,0,1,0] Q [Kont.seq [1,1,1]] (St.mk u7 u1 g))/\(false=false->Flw Tryd.prog/\2<=2/\OpOk Tryd.prog R (Oper.mk (some 33) (Op.slice 53 (Operand.tmp 32) (some (Operand.const (Value.int i64 1))) none none) 53 "ref.go:338" #[Edge.mk 2 Ground.data] none) (evO [Row.mk (some 32) none u3 false (some []) [],Row.mk (some 31) none u2 false (some []) [],Row.mk (some 30) none (au p) false (some []) [1]] u7 []) u1 g u9 u1 g/\(true=true/\Does Tryd.prog R 81 [au p,u2,u9,int i64 u6,ow true 0 m 1] u1 g (ret (ow true 2 m1 1)) [dead,u10,u5] g)/\0<1/\u4*1<=ax/\u4<=ax/\(∀(c:Nat),c<u4*1->ap (ar n s) c=ap (ar n s) ((c-0)/1))/\((↑0:Int)<=0/\0<(↑(List.length (a::r)):Int))/\1<=1/\(0<=u8/\u8<(↑u4:Int))/\Int.toNat u8+1<=u4*1/\WpC Tryd.prog R 51 1 81 [1,1,1,1,1,1] Q [] (St.mk [(1,ow true 3 u4 1),(2,u3),(3,int i64 u6),(4,ow true 2 m1 1),(5,ref 1 0)] [dead,u10,u5,cells false (u4*1) (ah (ap (ar n s)) (Int.toNat u8) 1 fun x=>AV.bool true)] g)))) (decide ((↑m:Int) >= u6))) (cells false 2 (nth [int i64 p.atoms,ad p.rules]))) (fz Fz.may 1 (List.length r) fun i x=>ab r i)) (List.getD (a::r) 0 0)) ([(1,u2),(2,u3),(3,int i64 u6),(4,ow true 0 m 1),(5,ref 1 0),(18,AV.bool false)])) ((↑most:Int))) (cells false (m1*1) fun a=>fz Fz.auto 1 (List.length (ag (List.getD L' a 0)).l) fun i x=>ab (ag (List.getD L' a 0)).l i)) (0+List.length (ar n s))) (fz Fz.may 1 (List.length (a::r)) fun i x=>ab (a::r) i)) (fz Fz.auto 1 (List.length (ar n s)) fun i x=>ap (ar n s) i)) ([cells false (m*1) fun a=>fz Fz.auto 1 (List.length (ag (List.getD L a 0)).l) fun i x=>ab (ag (List.getD L a 0)).l i,cells false 2 (nth [int i64 p.atoms,ad p.rules])])) ⟨fun hcc=>(nomatch (hz.symm.trans hcc)),fun _=>⟨fun h=>(nomatch h),fun _=>⟨krf,omg,?_,⟨rfl,(doS [0] 2 (fun R g=>i1 R g))⟩,omg,omg,omg,?_,omg,omg,omg,omg,?_⟩⟩⟩
    ·exact dy (a:=a) krf
    ·intro c hc
     rw[Nat.sub_zero,Nat.div_one]
    ·refine br (fq 3 [(1,bT (ar n t)),(2,aj ⟨a::r,.may⟩),(3,.int .i64 most),(4,.ow true 2 m1 1),(5,.ref 1 0)] [.dead,.cells false 2 (nth [.int .i64 p.atoms,ad p.rules]),.cells false (m1*1) (aB L')] omg (by show 3<=3+1;omega) rfl (fun i hi=>?_) ⟨f7 (o:=3) (by rw[cj,cj,Nat.zero_add]) (fun j=>?_) rfl (Nat.le_refl _),AC trivial,AC trivial,AC (show 2<3 by omega),AC (show 1<3 by omega),trivial⟩) ?_
     ·match i,hi with
      |0,_=>exact trivial
      |1,_=>exact⟨rfl,rfl,fun j hj=>match j,hj with|0,_=>AC trivial|1,_=>AC trivial⟩
      |2,_=>exact⟨rfl,rfl,fun j hj=>AC (dp _ _)⟩
     ·rw[<-ht]
      exact(f0 (by rw[hbs];show a.toNat<n;omega)).trans (by rw[<-gA (fun j=>eU hs) omg];rfl)
     ·refine vcR [] (lkL [(10,[10])]) (lkL [(10,[(3,ROrc.kop (aj (KL.mk r Fz.may))),(6,ROrc.kcall (ow true 2 m1 1))])]) (fun Q=>(fun (u1:List AObj)=>(fun (u2:AV)=>(fun (u3:AV)=>(fun (u4:AV)=>Flw Tryd.prog/\2<=2/\OpOk Tryd.prog R (Oper.mk (some 47) (Op.slice 53 (Operand.tmp 46) (some (Operand.const (Value.int i64 1))) none none) 53 "ref.go:341" #[Edge.mk 2 Ground.data] none) (evO [Row.mk (some 46) none u3 false (some []) [],Row.mk (some 45) none u2 false (some []) [],Row.mk (some 44) none (au p) false (some []) [1]] [(1,u2),(2,u3),(3,int i64 (↑most:Int)),(4,ow true 2 m1 1),(5,ref 1 0)] []) u1 g u4 u1 g/\(true=true/\Does Tryd.prog R 81 [au p,u2,u4,int i64 (↑most:Int),ow true 2 m1 1] u1 g (ret (ow true 2 m1 1)) u1 g)/\Q AEx.ret (St.mk [(10,ow true 2 m1 1)] u1 g)) (fz Fz.may 1 (List.length r) fun i x=>ab r i)) (fz Fz.may 1 (List.length (a::r)) fun i x=>ab (a::r) i)) (fz Fz.auto 1 (List.length (ar n t)) fun i x=>ap (ar n t) i)) ([dead,cells false 2 (nth [int i64 p.atoms,ad p.rules]),cells false (m1*1) fun a=>fz Fz.auto 1 (List.length (ag (List.getD L' a 0)).l) fun i x=>ab (ag (List.getD L' a 0)).l i])) ⟨krf,omg,?_,⟨rfl,(doS [2] 3 (fun R g=>i2 R g))⟩,?_⟩
      ·exact dy (a:=a) krf
      ·show a9 Tryd.prog R 1 _ _ _ _ .ret _
       exact bY (.ow true 2 m1 1) _ rfl trivial (toS (s':=⟨[(0,.ow true 1 m1 1)],[.dead,.cells false (m1*1) (aB L')],g⟩) [0,2] 3)
   ·skip
    have i1:=fun (R:Res) (g:R.σ)=>ih.ow R s m m1 L L1 g hs hL hmL hmm hL1 hm1 e1
    have i2:=fun (R:Res) (g:R.σ)=>ih.ow R t m1 m' L1 L' g htn hL1n hm1 hmm1 h hm' e2
    refine spW (nt:=51) (rs:=[.tmp 10]) (k0:=1) ?_
    refine vcR [[1,1,1,1,1,1],[1,0,1,0],[1,1,0,1,0]] (lkL [(0,[1,2,3,4,5]),(1,[1,2,3,4,5,14]),(3,[1,2,3,4,5,18]),(7,[1,2,3,4,5]),(8,[1,2,3,4,5]),(9,[1,2,3,4,5])]) (lkL [(7,[(3,ROrc.kop (aj (KL.mk r Fz.may))),(6,ROrc.callN (ow true 2 m1 1) [(0,dead)] [cells false (m1*1) (aB L1)] g)]),(8,[(1,ROrc.val (Orc.obj (ap (ar n s))))])]) (fun Q=>(fun (u1:List AObj)=>(fun (u2:AV)=>(fun (u3:AV)=>(fun (u4:Nat)=>(fun (u5:AObj)=>(fun (u6:Int)=>(fun (u7:List (Nat × AV))=>(fun (u8:Int)=>(fun (u9:AV)=>(fun (u10:AObj)=>(fun (u11:Bool)=>(u11=true->WpC Tryd.prog R 51 1 81 [1,0,1,0] Q [Kont.seq [1,1]] (St.mk [(1,u2),(2,u3),(3,int i64 u6),(4,ow true 0 m 1),(5,ref 1 0),(14,AV.bool u11)] u1 g))/\(u11=false->(false=true->WpC Tryd.prog R 51 1 81 [1,1,0,1,0] Q [Kont.seq [1,1,1]] (St.mk u7 u1 g))/\(false=false->Flw Tryd.prog/\2<=2/\OpOk Tryd.prog R (Oper.mk (some 33) (Op.slice 53 (Operand.tmp 32) (some (Operand.const (Value.int i64 1))) none none) 53 "ref.go:338" #[Edge.mk 2 Ground.data] none) (evO [Row.mk (some 32) none u3 false (some []) [],Row.mk (some 31) none u2 false (some []) [],Row.mk (some 30) none (au p) false (some []) [1]] u7 []) u1 g u9 u1 g/\(true=true/\Does Tryd.prog R 81 [au p,u2,u9,int i64 u6,ow true 0 m 1] u1 g (ret (ow true 2 m1 1)) [dead,u10,u5] g)/\0<1/\u4*1<=ax/\u4<=ax/\(∀(c:Nat),c<u4*1->ap (ar n s) c=ap (ar n s) ((c-0)/1))/\((↑0:Int)<=0/\0<(↑(List.length (a::r)):Int))/\1<=1/\(0<=u8/\u8<(↑u4:Int))/\Int.toNat u8+1<=u4*1/\WpC Tryd.prog R 51 1 81 [1,1,1,1,1,1] Q [] (St.mk [(1,ow true 3 u4 1),(2,u3),(3,int i64 u6),(4,ow true 2 m1 1),(5,ref 1 0)] [dead,u10,u5,cells false (u4*1) (ah (ap (ar n s)) (Int.toNat u8) 1 fun x=>AV.bool true)] g)))) (decide ((↑m:Int) >= u6))) (cells false 2 (nth [int i64 p.atoms,ad p.rules]))) (fz Fz.may 1 (List.length r) fun i x=>ab r i)) (List.getD (a::r) 0 0)) ([(1,u2),(2,u3),(3,int i64 u6),(4,ow true 0 m 1),(5,ref 1 0),(18,AV.bool false)])) ((↑most:Int))) (cells false (m1*1) fun a=>fz Fz.auto 1 (List.length (ag (List.getD L1 a 0)).l) fun i x=>ab (ag (List.getD L1 a 0)).l i)) (0+List.length (ar n s))) (fz Fz.may 1 (List.length (a::r)) fun i x=>ab (a::r) i)) (fz Fz.auto 1 (List.length (ar n s)) fun i x=>ap (ar n s) i)) ([cells false (m*1) fun a=>fz Fz.auto 1 (List.length (ag (List.getD L a 0)).l) fun i x=>ab (ag (List.getD L a 0)).l i,cells false 2 (nth [int i64 p.atoms,ad p.rules])])) ⟨fun hcc=>(nomatch (hz.symm.trans hcc)),fun _=>⟨fun h=>(nomatch h),fun _=>⟨krf,omg,?_,⟨rfl,(doS [0] 2 (fun R g=>i1 R g))⟩,omg,omg,omg,?_,omg,omg,omg,omg,?_⟩⟩⟩
    ·exact dy (a:=a) krf
    ·intro c hc
     rw[Nat.sub_zero,Nat.div_one]
    ·refine br (fq 3 [(1,bT (ar n t)),(2,aj ⟨a::r,.may⟩),(3,.int .i64 most),(4,.ow true 2 m1 1),(5,.ref 1 0)] [.dead,.cells false 2 (nth [.int .i64 p.atoms,ad p.rules]),.cells false (m1*1) (aB L1)] omg (by show 3<=3+1;omega) rfl (fun i hi=>?_) ⟨f7 (o:=3) (by rw[cj,cj,Nat.zero_add]) (fun j=>?_) rfl (Nat.le_refl _),AC trivial,AC trivial,AC (show 2<3 by omega),AC (show 1<3 by omega),trivial⟩) ?_
     ·match i,hi with
      |0,_=>exact trivial
      |1,_=>exact⟨rfl,rfl,fun j hj=>match j,hj with|0,_=>AC trivial|1,_=>AC trivial⟩
      |2,_=>exact⟨rfl,rfl,fun j hj=>AC (dp _ _)⟩
     ·rw[<-ht]
      exact(f0 (by rw[hbs];show a.toNat<n;omega)).trans (by rw[<-gA (fun j=>eU hs) omg];rfl)
     ·refine vcR [] (lkL [(10,[10])]) (lkL [(10,[(3,ROrc.kop (aj (KL.mk r Fz.may))),(6,ROrc.callN (ow true 3 m' 1) [(2,dead)] [cells false (m'*1) (aB L')] g)])]) (fun Q=>(fun (u1:List AObj)=>(fun (u2:List AObj)=>(fun (u3:AV)=>(fun (u4:AV)=>(fun (u5:AV)=>Flw Tryd.prog/\2<=2/\OpOk Tryd.prog R (Oper.mk (some 47) (Op.slice 53 (Operand.tmp 46) (some (Operand.const (Value.int i64 1))) none none) 53 "ref.go:341" #[Edge.mk 2 Ground.data] none) (evO [Row.mk (some 46) none u4 false (some []) [],Row.mk (some 45) none u3 false (some []) [],Row.mk (some 44) none (au p) false (some []) [1]] [(1,u3),(2,u4),(3,int i64 (↑most:Int)),(4,ow true 2 m1 1),(5,ref 1 0)] []) u1 g u5 u1 g/\(true=true/\Does Tryd.prog R 81 [au p,u3,u5,int i64 (↑most:Int),ow true 2 m1 1] u1 g (ret (ow true 3 m' 1)) u2 g)/\Q AEx.ret (St.mk [(10,ow true 3 m' 1)] u2 g)) (fz Fz.may 1 (List.length r) fun i x=>ab r i)) (fz Fz.may 1 (List.length (a::r)) fun i x=>ab (a::r) i)) (fz Fz.auto 1 (List.length (ar n t)) fun i x=>ap (ar n t) i)) ([dead,cells false 2 (nth [int i64 p.atoms,ad p.rules]),dead,cells false (m'*1) fun a=>fz Fz.auto 1 (List.length (ag (List.getD L' a 0)).l) fun i x=>ab (ag (List.getD L' a 0)).l i])) ([dead,cells false 2 (nth [int i64 p.atoms,ad p.rules]),cells false (m1*1) fun a=>fz Fz.auto 1 (List.length (ag (List.getD L1 a 0)).l) fun i x=>ab (ag (List.getD L1 a 0)).l i])) ⟨krf,omg,?_,⟨rfl,(doS [2] 3 (fun R g=>i2 R g))⟩,?_⟩
      ·exact dy (a:=a) krf
      ·show a9 Tryd.prog R 1 _ _ _ _ .ret _
       exact bY (.ow true 3 m' 1) _ rfl trivial (toS (s':=⟨[(0,.ow true 1 m' 1)],[.dead,.cells false (m'*1) (aB L')],g⟩) [0,3] 4)
def fA (b:Nat->Bool)(i:Nat):Nat->AV:=fun j=>.bool (decide (j<i)&&b j)
theorem qL {k:Nat}(b:Nat->Bool)(i j:Nat):Below k (fA b i j):=trivial
theorem qT {f:Nat->Nat}(h:True){b:Nat->Bool}{i j:Nat}:aN f (fA b i j)=fA b i j:=rfl
theorem tf {b:Nat->Bool}{i c:Nat}{x:Bool}(hx:x=b i):ah (fA b i) i 1 (fun _=>.bool x) c=fA b (i+1) c:=by
 subst hx
 rw[cA]
 unfold fA
 split
 ·rename_i h
  have:c=i:=by omega
  subst this
  rw[decide_eq_true (Nat.lt_succ_self c),Bool.true_and]
 ·rename_i h
  rw[show decide (c<i+1)=decide (c<i) from decide_eq_decide.2 omg]
theorem Aj {b:Nat->Bool}{j:Nat}:AV.bool false=fA b 0 j:=rfl
theorem tg {p:Prg}{most n:Nat}(hm:1<=most/\most<=100)(hn:0<n/\n<=24)(hpa:p.atoms=n)(hl:p.rules.l.length<1000000)(hr:∀r,r∈p.rules.l->aH r)(hrn:∀r,r∈p.rules.l->cu n r):∀(r:List Int),r.length<=24->(∀a,a∈r->0<=a/\a<n)->ModC p most n r
 |[],_,_=>Ah hm hn hpa hl hr hrn
 |a::r,h,ha=>Ai hm hn hpa (by rw[List.length_cons] at h;omega) (ha a List.mem_cons_self) (tg hm hn hpa hl hr hrn r (by rw[List.length_cons] at h;omega) (fun b hb=>ha b (List.mem_cons_of_mem _ hb)))
theorem Ak (R:Res)(p:Prg)(most:Nat)(hb:aG p=true)(hm:1<=most/\most<=100)(g:R.σ):Does Tryd.prog R 28 [au p,.int .i64 most] [] g (.ret (.tup 2 (nth [bo (if 10<(aU (bA p)).length then 0 else(stP p most).length) (fun i=>ag ((stP p most).getD i 0)),.int .i64 (if 10<(aU (bA p)).length then 8 else 0)]))) [] g:=by
 have hroom:ax=140737488355328:=rfl
 obtain⟨hl,hr,hp,hh,hx⟩:=eQ hb
 have hp':1<=p.atoms/\p.atoms<=24:=hp
 have hrn:=zL hb
 obtain⟨n,hn⟩:∃n,p.atoms.toNat=n:=⟨_,rfl⟩
 rw[hn] at hrn
 have hpa:p.atoms=n:=by omega
 have hD:=fun (R:Res) (g:R.σ)=>zi R p n omg hpa hl hrn g
 obtain⟨e1,e2⟩:=zv (p:=p) (n:=n) hp hr hrn hh hn
 have hvl:(cM p n).2.length=n:=sA
 obtain⟨vv,hvv⟩:∃vv,(cM p n).2=vv:=⟨_,rfl⟩
 rw[hvv] at hD e2 hvl
 have hget:∀j,j<n->vv.getD j 0=(ak p).2 j:=fun j hj=>e2.get j hj
 have hopn:aA (vv.map (fun x=>x==3)) n=aU (bA p):=by
  refine sM (m:=bA p) omg (by rw[List.length_map,hvl]) (fun j=>?_)
  unfold bA
  rw[fZ,hn]
  rcases Nat.lt_or_ge j n with h|h
  ·rw[decide_eq_true h,Bool.true_and,<-hget j h,List.getD_eq_getElem?_getD,List.getD_eq_getElem?_getD,List.getElem?_map,List.getElem?_eq_getElem omg,Bool.eq_iff_iff,decide_eq_true_eq]
   exact beq_iff_eq
  ·rw[decide_eq_false omg,Bool.false_and,List.getD_eq_getElem?_getD,List.getElem?_eq_none (by rw[List.length_map];omega)]
   rfl
 have htr:∀j,fA (fun j=>vv.getD j 0==2) n j=ap (ar n (dY p)) j:=fun j=>by
  show AV.bool _=AV.bool _
  congr 1
  have hb:∀j,(dY p).testBit j=true->j<n:=fun j h=>eU (by show aF _ _ p.atoms.toNat<_;rw[hn];exact iS _ _ _) h
  rw[ic hb]
  unfold dY
  rw[fZ,hn]
  rcases Nat.lt_or_ge j n with h|h
  ·rw[decide_eq_true h,Bool.true_and,Bool.true_and,<-hget j h,Bool.eq_iff_iff,decide_eq_true_eq]
   exact beq_iff_eq
  ·rw[decide_eq_false omg,Bool.false_and,Bool.false_and]
 refine spW (nt:=50) (rs:=[.tmp 4,.tmp 5]) (k0:=0) ?_
 refine vcR [] (lkL [(0,[1,2]),(1,[1,2,7]),(2,[1,2,7,8]),(3,[1,2,7,8,9]),(4,[1,2,7,8,9,10])]) (lkL [(1,[(1,ROrc.kcall (tup 2 (nth [fz Fz.auto 2 (List.length (bl (cM p n).fst).l) fun (i:Nat)=>dR (List.getD (bl (cM p n).fst).l i default),fz Fz.auto 1 (List.length vv) fun (i x:Nat)=>ab vv i])))])]) (fun Q=>(fun (u1:AObj)=>(fun (u2:AV)=>2<=2/\(true=true/\Does Tryd.prog R 19 [au p] [u1] g (ret (tup 2 (nth [fz Fz.auto 2 (List.length (bl (cM p n).fst).l) fun i=>dR (List.getD (bl (cM p n).fst).l i default),u2]))) [u1] g)/\1<=2/\0<=p.atoms/\p.atoms<=p.atoms/\p.atoms<=140737488355328/\Int.toNat p.atoms*1<=ax/\WpC Tryd.prog R 50 0 28 [1,1,1,1,0,1,0] Q [Kont.blk 0,Kont.seq [1,1,1,1,1]] (St.mk [(1,int i64 (↑most:Int)),(2,ref 0 0),(7,u2),(8,sl 1 0 (Int.toNat p.atoms) (Int.toNat p.atoms) true 1),(9,fz Fz.nil 0 0 fun x x_1=>any),(10,int i64 0)] [u1,cells false (Int.toNat p.atoms*1) fun j=>AV.bool false] g)) (fz Fz.auto 1 (List.length vv) fun i x=>ab vv i)) (cells false 2 (nth [int i64 p.atoms,ad p.rules]))) ⟨omg,⟨rfl,(doS [] 1 (fun R g=>hD R g))⟩,omg,omg,omg,omg,omg,?_⟩
 rw[hn]
 refine br (toL (s':=⟨[(1,.int .i64 most),(2,.ref 0 0),(7,aj ⟨vv,.auto⟩),(8,.ow true 1 n 1),(9,.fz .nil 0 0 (fun _ _=>.any)),(10,.int .i64 0)],[.cells false 2 (nth [.int .i64 p.atoms,ad p.rules]),.cells false (n*1) (fA (fun j=>vv.getD j 0==2) 0)],g⟩) (h1:=?_) (h2:=?_)) ?_
 ·exact⟨Av _,Av _,Av _,AE omg,Av _,Av _,trivial⟩
 ·exact⟨Ay _,⟨rfl,Nat.le_refl _,fun j _=>Aw Aj⟩,trivial⟩
 refine br (eO (fun _=>.any) 1) ?_
 refine(aZ krf (fun (x:Nat × Nat)=>⟨[(1,int i64 (most:Int)),(2,ref 0 0),(7,fz Fz.auto 1 (vv.length) fun (i x:Nat)=>ab vv i),(8,ow true 1 n 1),(9,.ow true 2 x.2 1),(10,.int .i64 x.1)],[.cells false 2 (nth [.int .i64 p.atoms,ad p.rules]),.cells false (n*1) (fA (fun j=>vv.getD j 0==2) x.1),.cells false (x.2*1) (ab (aA (vv.map (fun x=>x==3)) x.1))],g⟩) (fun (x:Nat × Nat)=>(x.1<=n/\x.2=(aA (vv.map (fun x=>x==3)) x.1).length)) (fun (x:Nat × Nat)=>(n-x.1)) ((0,0):Nat × Nat) (toL (h1:=⟨Av _,Av _,Av _,Av _,Le.nil_ow,(Aw krf),trivial⟩) (h2:=⟨Ax,Ax,⟨rfl,Nat.le_refl _,fun j hj=>absurd hj (Nat.not_lt_zero j)⟩,trivial⟩)) ?_ (fun x hi=>?_))
 ·exact⟨Nat.zero_le _,rfl⟩
 ·obtain⟨i,m⟩:=x
  obtain⟨hi,hm1⟩:=hi
  simp only at hi hm1
  have hml:=j6 (s:=vv.map (fun x=>x==3)) (n:=i)
  have hns:=ox (s:=vv.map (fun x=>x==3)) (n:=i)
  rcases Nat.lt_or_ge i n with hi'|hi'
  ·have hmg:(vv.map (fun x=>x==3)).getD i false=(vv.getD i 0==3):=by
    rw[List.getD_eq_getElem?_getD,List.getD_eq_getElem?_getD,List.getElem?_map,List.getElem?_eq_getElem omg]
    rfl
   rw[hmg] at hns
   refine vcR [] (lkL [(5,[1,2,7,8,9,10,22]),(7,[1,2,7,8,9,10]),(8,[1,2,7,8,9,10,37]),(9,[1,2,7,8,9,10]),(6,[1,2,7,8,9,10])]) (lkL [(9,[(3,ROrc.val (Orc.obj (ab (aA (List.map (fun (x:Int)=>x==3) vv) i++[(↑i:Int)]))))])]) (fun Q=>(fun (u1:Int)=>(fun (u2:List Int)=>(fun (u3:AObj)=>(fun (u4:Nat × AV)=>(fun (u5:AObj)=>1<=2/\(decide (u1<p.atoms)=true->(0<=u1/\u1<(↑(List.length vv):Int))/\1<=1/\(0<=u1/\u1<(↑n:Int))/\i+1<=n*1/\(0<=u1/\u1<(↑(List.length vv):Int))/\1<=1/\((List.getD vv i 0==3)=true->0<1/\(m+1)*8<=ax/\m+1<=ax/\1<=1/\m*1<=m*1/\(∀(c:Nat),c<(m+1)*1->ab (u2++[u1]) c=aS 1 m (fun (i j:Nat)=>ab u2 (i*1+j)) (fun (i j:Nat)=>ah (fun (j:Nat)=>int i64 0) 0 1 (fun (x:Nat)=>int i64 u1) (0+i*1+j)) c)/\(-9223372036854775808<=u1+1/\u1+1<=9223372036854775807)/\Q AEx.normal (St.mk [(1,int i64 (↑most:Int)),(2,ref 0 0),u4,(8,ow true 1 n 1),(9,ow true 4 (m+1) 1),(10,int i64 (u1+1))] [u5,u3,dead,cells false 1 (ah (fun (j:Nat)=>int i64 0) 0 1 fun x=>int i64 u1),cells false ((m+1)*1) fun a=>ab (u2++[u1]) a] g))/\((List.getD vv i 0==3)=false->(-9223372036854775808<=u1+1/\u1+1<=9223372036854775807)/\Q AEx.normal (St.mk [(1,int i64 (↑most:Int)),(2,ref 0 0),u4,(8,ow true 1 n 1),(9,ow true 2 m 1),(10,int i64 (u1+1))] [u5,u3,cells false (m*1) fun a=>ab u2 a] g)))/\(decide (u1<p.atoms)=false->Q (AEx.exit 0) (St.mk [(1,int i64 (↑most:Int)),(2,ref 0 0),u4,(8,ow true 1 n 1),(9,ow true 2 m 1),(10,int i64 u1),(22,AV.bool (decide (u1<p.atoms)))] [u5,cells false (n*1) fun a=>AV.bool (decide (a<i)&&List.getD vv a 0==2),cells false (m*1) fun a=>ab u2 a] g))) (cells false 2 (nth [int i64 p.atoms,ad p.rules]))) ((7,fz Fz.auto 1 (List.length vv) fun i x=>ab vv i))) (cells false (n*1) (ah (fun (a:Nat)=>AV.bool (decide (a<i)&&List.getD vv a 0==2)) i 1 fun x=>AV.bool (List.getD vv i 0==2)))) (aA (List.map (fun (x:Int)=>x==3) vv) i)) ((↑i:Int))) ⟨omg,fun c1=>have c1:(↑i:Int)<p.atoms:=(of_decide_eq_true c1);⟨omg,omg,omg,omg,omg,omg,fun c2=>have c2:List.getD vv i 0=3:=(beq_iff_eq.mp c2);⟨omg,omg,omg,omg,omg,?_,omg,?_⟩,fun c2=>have c2:¬List.getD vv i 0=3:=(beq_eq_false_iff_ne.mp c2);⟨omg,?_⟩⟩,fun c1=>have c1:¬(↑i:Int)<p.atoms:=(of_decide_eq_false c1);?_⟩
   ·intro c hc
    rw[hm1] at hc ⊢
    exact(lP (z:=fun _=>.int .i64 0) hc).trans krf
   ·have hns:=hns.trans (if_pos (by rw[c2];decide))
    refine(aL (i+1,m+1) (toS [0,1,4] 5 (hob:=⟨⟨rfl,Nat.le_refl _,fun j hj=>match j,hj with|0,_=>(Av _)|1,_=>(Av _) ⟩,?_,?_,trivial⟩)) ?_ ?_)
    ·exact⟨rfl,Nat.le_refl _,fun j _=>Aw (tf (b:=fun j=>vv.getD j 0==2) rfl)⟩
    ·show LeO (.cells false ((m+1)*1) (ab (aA (vv.map (fun x=>x==3)) i++[(i:Int)]))) (.cells false ((m+1)*1) (ab (aA (vv.map (fun x=>x==3)) (i+1))))
     rw[hns]
     exact Ay _
    ·refine⟨by show i+1<=_;omega,?_⟩
     show m+1=(aA (vv.map (fun x=>x==3)) (i+1)).length
     rw[hns,List.length_append,<-hm1]
     rfl
    ·show n-(i+1)<n-i
     omega
   ·have hns:=hns.trans (if_neg (by rw[beq_iff_eq];exact c2))
    refine(aL (i+1,m) (toL (h1:=⟨Av _,Av _,Av _,Av _,Av _,(Aw krf),trivial⟩) (h2:=⟨Ax,?_,?_,trivial⟩)) ?_ ?_)
    ·exact⟨rfl,Nat.le_refl _,fun j _=>Aw (tf (b:=fun j=>vv.getD j 0==2) rfl)⟩
    ·show LeO (.cells false (m*1) (ab (aA (vv.map (fun x=>x==3)) i))) (.cells false (m*1) (ab (aA (vv.map (fun x=>x==3)) (i+1))))
     rw[hns]
     exact Ay _
    ·refine⟨by show i+1<=_;omega,?_⟩
     show m=(aA (vv.map (fun x=>x==3)) (i+1)).length
     rw[hns,<-hm1]
    ·show n-(i+1)<n-i
     omega
   ·exfalso;omega
  ·have hie:i=n:=by omega
   subst hie
   have hbb:decide ((i:Int)<p.atoms)=false:=decide_eq_false omg
   rw[hopn] at hm1 ⊢
   refine br (fq 1 [(1,.int .i64 most),(2,.ref 0 0),(8,bT (ar i (dY p))),(9,aj ⟨aU (bA p),.may⟩),(10,.int .i64 i)] [.cells false 2 (nth [.int .i64 p.atoms,ad p.rules])] (Nat.zero_le _) (by show 1<=3;omega) rfl (fun i hi=>match i,hi with|0,_=>⟨rfl,rfl,fun j hj=>match j,hj with|0,_=>AC trivial|1,_=>AC trivial⟩) ⟨AC trivial,AC (show 0<1 by omega),f7 (o:=1) cj htr rfl omg,(oC (o:=2) hm1.symm rfl omg).le (kK rfl (fun _ _ _ _=>rfl)),AC trivial,trivial⟩) ?_
   have hO24:(aU (bA p)).length<=24:=by rw[fY];exact gv _
   have hOa:∀a,a∈aU (bA p)->0<=a/\a<i:=fun a ha=>by
    have h:=z4 a ha
    have h2:=h.2.2
    unfold bA at h2
    rw[hn,fZ,Bool.and_eq_true,decide_eq_true_eq] at h2
    omega
   have hT:dY p<2^i:=by rw[<-hn];exact iS _ _ _
   have hM:=tg (most:=most) hm (show 0<i/\i<=24 by omega) hpa hl hr hrn (aU (bA p)) hO24 hOa
   obtain⟨O,hO⟩:∃O,aU (bA p)=O:=⟨_,rfl⟩
   obtain⟨S,hS⟩:∃S,dY p=S:=⟨_,rfl⟩
   have hst:stP p most=stF p most O S []:=by rw[<-hO,<-hS];rfl
   rw[hst]
   rw[hO] at hM hO24 ⊢
   rw[hS] at hT ⊢
   refine vcR [[1,1,1,1,0,1,0,0,0,1,0]] (lkL [(5,[1,2,7,8,9,10,22])]) (fun _=>[]) (fun Q=>(fun (u1:St R.σ)=>1<=2/\(decide ((↑i:Int)<p.atoms)=true->WpC Tryd.prog R 50 0 28 [1,1,1,1,0,1,0,0,0,1,0] Q [Kont.seq [1,1,1,1,0,1,0,0,1]] u1)/\(decide ((↑i:Int)<p.atoms)=false->Q (AEx.exit 0) u1)) (St.mk [(1,int i64 (↑most:Int)),(2,ref 0 0),(7,any),(8,fz Fz.auto 1 (List.length (ar i S)) fun i_1 x=>ap (ar i S) i_1),(9,fz Fz.may 1 (List.length O) fun i x=>ab O i),(10,int i64 (↑i:Int)),(22,AV.bool (decide ((↑i:Int)<p.atoms)))] [cells false 2 (nth [int i64 p.atoms,ad p.rules])] g)) ⟨omg,fun hcc=>(nomatch (hbb.symm.trans hcc)),fun _=>?_⟩
   by_cases h10:10<O.length
   ·have hg:decide ((O.length:Int) > 10)=true:=decide_eq_true omg
    rw[if_pos h10,if_pos h10]
    refine⟨_,AH _,vcR [[1,1,1,1,1,0,1,1]] (lkL [(10,[1,2,8,9,44]),(11,[4,5])]) (fun _=>[]) (fun Q=>(fun (u1:Int)=>(fun (u2:AObj)=>(decide (u1 > 10)=true->Q AEx.ret (St.mk [(4,fz Fz.nil 0 0 fun x x_1=>any),(5,int i64 8)] [u2] g))/\(decide (u1 > 10)=false->WpC Tryd.prog R 50 0 28 [1,1,1,1,1,0,1,1] Q [Kont.seq [1,1,1,1,1,1]] (St.mk [(1,int i64 (↑most:Int)),(2,ref 0 0),(8,fz Fz.auto 1 (List.length (ar i S)) fun i_1 x=>ap (ar i S) i_1),(9,fz Fz.may 1 (List.length O) fun i x=>ab O i),(44,AV.bool (decide (u1 > 10)))] [u2] g))) (cells false 2 (nth [int i64 p.atoms,ad p.rules]))) ((↑(List.length O):Int))) ⟨fun _=>?_,fun hcc=>(nomatch (hg.symm.trans hcc))⟩⟩
    refine(aw (bt _ _ rfl trivial ⟨⟨trivial,trivial⟩,trivial⟩ rfl) (Az (fun j hj=>match j,hj with|0,_=>Le.nil_auto|1,_=>(Aw krf) )))
   ·have hg:decide ((O.length:Int) > 10)=false:=decide_eq_false omg
    rw[if_neg h10,if_neg h10]
    obtain⟨L,hL⟩:∃L,stF p most O S []=L:=⟨_,rfl⟩
    rw[hL]
    by_cases hL0:L=[]
    ·subst hL0
     have hC:=fun (R:Res) (g:R.σ)=>hM.nn R S g hT hL
     refine⟨_,AH _,vcR [[1,1,1,1,1,0,1,0]] (lkL [(10,[1,2,8,9,44]),(12,[4,5])]) (lkL [(12,[(4,ROrc.kcall (fz Fz.nil 0 0 fun (x x_1:Nat)=>any))])]) (fun Q=>(fun (u1:List AObj)=>(fun (u2:Int)=>(fun (u3:AV)=>(fun (u4:AV)=>(fun (u5:AV)=>(decide (u2 > 10)=true->WpC Tryd.prog R 50 0 28 [1,1,1,1,1,0,1,0] Q [Kont.seq [1,1,1,1,1,1]] (St.mk [(1,int i64 (↑most:Int)),(2,ref 0 0),(8,u3),(9,u5),(44,AV.bool (decide (u2 > 10)))] u1 g))/\(decide (u2 > 10)=false->2<=2/\(true=true/\Does Tryd.prog R 81 [au p,u3,u5,int i64 (↑most:Int),u4] u1 g (ret u4) u1 g)/\Q AEx.ret (St.mk [(4,u4),(5,int i64 0)] u1 g))) (fz Fz.may 1 (List.length O) fun i x=>ab O i)) (fz Fz.nil 0 0 fun x x_1=>any)) (fz Fz.auto 1 (List.length (ar i S)) fun i_1 x=>ap (ar i S) i_1)) ((↑(List.length O):Int))) ([cells false 2 (nth [int i64 p.atoms,ad p.rules])])) ⟨fun hcc=>(nomatch (hg.symm.trans hcc)),fun _=>⟨omg,⟨rfl,(doS [] 1 (fun R g=>hC R g))⟩,?_⟩⟩⟩
     refine(aw (bt _ _ rfl trivial ⟨⟨trivial,trivial⟩,trivial⟩ rfl) (Az (fun j hj=>match j,hj with|0,_=>Le.nil_auto|1,_=>(Aw krf) )))
    ·obtain⟨m',hm'⟩:∃m',m'=L.length:=⟨_,rfl⟩
     have hC:=fun (R:Res) (g:R.σ)=>hM.nw R S m' L g hT hL hL0 hm'
     refine⟨_,AH _,vcR [[1,1,1,1,1,0,1,0]] (lkL [(10,[1,2,8,9,44]),(12,[4,5])]) (lkL [(12,[(4,ROrc.call (ow true 1 m' 1) [cells false 2 (nth [int i64 p.atoms,ad p.rules]),cells false (m'*1) (aB L)] g)])]) (fun Q=>(fun (u1:List AObj)=>(fun (u2:Int)=>(fun (u3:AV)=>(fun (u4:AV)=>(fun (u5:AObj)=>(decide (u2 > 10)=true->WpC Tryd.prog R 50 0 28 [1,1,1,1,1,0,1,0] Q [Kont.seq [1,1,1,1,1,1]] (St.mk [(1,int i64 (↑most:Int)),(2,ref 0 0),(8,u3),(9,u4),(44,AV.bool (decide (u2 > 10)))] [u5] g))/\(decide (u2 > 10)=false->2<=2/\(true=true/\Does Tryd.prog R 81 [au p,u3,u4,int i64 (↑most:Int),fz Fz.nil 0 0 fun x x_1=>any] [u5] g (ret (ow true 1 m' 1)) u1 g)/\Q AEx.ret (St.mk [(4,ow true 1 m' 1),(5,int i64 0)] u1 g))) (cells false 2 (nth [int i64 p.atoms,ad p.rules]))) (fz Fz.may 1 (List.length O) fun i x=>ab O i)) (fz Fz.auto 1 (List.length (ar i S)) fun i_1 x=>ap (ar i S) i_1)) ((↑(List.length O):Int))) ([cells false 2 (nth [int i64 p.atoms,ad p.rules]),cells false (m'*1) fun a=>fz Fz.auto 1 (List.length (ag (List.getD L a 0)).l) fun i x=>ab (ag (List.getD L a 0)).l i])) ⟨fun hcc=>(nomatch (hg.symm.trans hcc)),fun _=>⟨omg,⟨rfl,(doS [] 1 (fun R g=>hC R g))⟩,?_⟩⟩⟩
     subst hm'
     show a9 Tryd.prog R 0 _ _ _ _ .ret _
     refine bY (.tup 2 (nth [.ow true 1 L.length 1,.int .i64 0])) _ rfl trivial (fo 0 [(0,.tup 2 (nth [bo L.length (fun i=>ag (L.getD i 0)),.int .i64 0]))] (Nat.le_refl _) (Nat.zero_le _) (fun i hi=>absurd hi (Nat.not_lt_zero i)) ⟨aq.tup (fun j hj=>?_),trivial⟩)
     match j,hj with
     |0,_=>exact aq.le (aq.ow (o:=1) (N:=L.length*1) (c:=aB L) (get:=aB L) (fr:=false) rfl (Nat.zero_le _) (Nat.le_refl _) dcd (fun j _=>AC (dp _ _))) (AB rfl (fun i j hi hj=>by
       show aB L (i*1+j)=_
       rw[show i*1+j=i by omega]
       rfl))
     |1,_=>exact AC trivial
theorem Al (R:Res)(p:Prg)(most:Int)(hs:ec p)(hb:aG p=false)(hp:List AObj)(g:R.σ):Does Tryd.prog R 27 [au p,.int .i64 most] hp g (.ret (.tup 2 (nth [.fz .nil 0 0 (fun _ _=>.any),.int .i64 2]))) hp g:=by
 refine bR (fun R g=>?_) (by exact⟨⟨⟨trivial,trivial⟩,trivial⟩,trivial,trivial⟩) R hp g
 have hK:∀(R:Res) (hp:List AObj) (g:R.σ),Does Tryd.prog R 16 [au p] hp g (.ret (.int .i64 2)) hp g:=fun R hp g=>by
  have h:=fT R p hp g hs
  rw[hb] at h
  exact h
 refine spW (nt:=45) (rs:=[.tmp 4,.tmp 5]) (k0:=0) ?_
 refine vcR [[1,0,1,1]] (lkL [(0,[2,3]),(1,[2,3,18]),(2,[4,5])]) (lkL [(1,[(1,ROrc.pcall (int i64 2)),(5,ROrc.pcall (AV.bool (decide (1<=most/\most<=100))))])]) (fun Q=>(fun (u1:List AObj)=>2<=2/\(∀(hp:List AObj) (g:R.σ),true=true/\Does Tryd.prog R 16 [au p] hp g (ret (int i64 2)) hp g)/\(false=true->1<=1)/\(false=true->∀(hp:List AObj) (g:R.σ),true=true/\Does Tryd.prog R 58 [int i64 most,int i64 1,int i64 100] hp g (ret (AV.bool (decide (1<=most/\most<=100)))) hp g)/\(true=true->Q AEx.ret (St.mk [(4,fz Fz.nil 0 0 fun x x_1=>any),(5,int i64 2)] u1 g))/\(true=false->WpC Tryd.prog R 45 0 27 [1,0,1,1] Q [Kont.seq [1,1]] (St.mk [(2,ref 0 0),(3,ref 1 0),(18,AV.bool true)] u1 g))) ([cells false 2 (nth [int i64 p.atoms,ad p.rules]),cells false 1 fun a=>int i64 most])) ⟨omg,(fun _ _=>⟨rfl,(hK _ _ _)⟩),omg,(fun hgd=>(fun _ _=>⟨rfl,(dS _ _ _ _ _ _)⟩)),fun _=>?_,fun h=>(nomatch h)⟩
 refine(aw (bt _ _ rfl trivial ⟨⟨trivial,trivial⟩,trivial⟩ rfl) (Av _))
theorem Am (R:Res)[Tab LT R](p:Prg)(most:Int)(g:R.σ):Does Tryd.prog R 6 [au p,.int .i64 most] [] g (.ret (.bool true)) [] g:=by
 refine spW (nt:=57) (rs:=[.tmp 4]) (k0:=0) ?_
 cases hsm:gr p with
 |false=>
  refine vcR [[1,0,1,1]] (lkL [(0,[1,2]),(1,[1,2,11]),(2,[4])]) (lkL [(1,[(1,ROrc.pcall (AV.bool false))]),(2,[(0,ROrc.kcall (AV.bool true))])]) (fun Q=>(fun (u1:List AObj)=>2<=2/\(∀(hp:List AObj) (g:R.σ),true=true/\Does Tryd.prog R 14 [au p] hp g (ret (AV.bool false)) hp g)/\(true=true->(true=true/\Does Tryd.prog R 15 [] u1 g (ret (AV.bool true)) u1 g)/\Q AEx.ret (St.mk [(4,AV.bool true)] u1 g))/\(true=false->WpC Tryd.prog R 57 0 6 [1,0,1,1] Q [Kont.seq [1,1]] (St.mk [(1,int i64 most),(2,ref 0 0),(11,AV.bool true)] u1 g))) ([cells false 2 (nth [int i64 p.atoms,ad p.rules])])) ⟨omg,(fun _ _=>⟨rfl,(eJ hsm (lu _ _ _ _))⟩),fun _=>⟨⟨rfl,(doT (T:=LT) [] 1 (fun R _ g=>kc R g))⟩,?_⟩,fun h=>(nomatch h)⟩
  refine(aw (bt _ _ rfl trivial trivial rfl) (Av _))
 |true=>
  have hs:=wL hsm
  cases hb:aG p with
  |false=>
   refine vcR [[1,0,1,0],[1,1,1,0,1,1]] (lkL [(0,[1,2]),(1,[1,2,11]),(3,[1,2,5,6]),(4,[1,2,5,6,29]),(5,[4])]) (lkL [(1,[(1,ROrc.pcall (AV.bool true))]),(3,[(2,ROrc.pcall (tup 2 (nth [fz Fz.nil 0 0 fun _ _=>any,int i64 2])))]),(4,[(1,ROrc.pcall (AV.bool false))]),(5,[(8,ROrc.kcall (AV.bool true))])]) (fun Q=>(fun (u1:List AObj)=>2<=2/\(∀(hp:List AObj) (g:R.σ),true=true/\Does Tryd.prog R 14 [au p] hp g (ret (AV.bool true)) hp g)/\(false=true->WpC Tryd.prog R 57 0 6 [1,0,1,0] Q [Kont.seq [1,1]] (St.mk [(1,int i64 most),(2,ref 0 0),(11,AV.bool false)] u1 g))/\(false=false->2<=2/\(∀(hp:List AObj) (g:R.σ),true=true/\Does Tryd.prog R 27 [au p,int i64 most] hp g (ret (tup 2 (nth [fz Fz.nil 0 0 fun x x_1=>any,int i64 2]))) hp g)/\2<=2/\(∀(hp:List AObj) (g:R.σ),true=true/\Does Tryd.prog R 18 [au p] hp g (ret (AV.bool false)) hp g)/\(true=true->(true=true->true=true/\Does Tryd.prog R 15 [] u1 g (ret (AV.bool true)) u1 g)/\Q AEx.ret (St.mk [(4,AV.bool true)] u1 g))/\(true=false->WpC Tryd.prog R 57 0 6 [1,1,1,0,1,1] Q [Kont.seq [1,1,1,1]] (St.mk [(1,int i64 most),(2,ref 0 0),(5,fz Fz.nil 0 0 fun x x_1=>any),(6,int i64 2),(29,AV.bool true)] u1 g)))) ([cells false 2 (nth [int i64 p.atoms,ad p.rules])])) ⟨omg,(fun _ _=>⟨rfl,(eJ hsm (lu _ _ _ _))⟩),fun h=>(nomatch h),fun _=>⟨omg,(fun _ _=>⟨rfl,(Al _ _ _ omg omg _ _)⟩),omg,(fun _ _=>⟨rfl,(eJ hb (nC _ _ _ _ omg))⟩),fun _=>⟨(fun hgd=>⟨rfl,(doT (T:=LT) [] 1 (fun R _ g=>kc R g))⟩),?_⟩,fun h=>(nomatch h)⟩⟩
   refine(aw (bt _ _ rfl trivial trivial rfl) (Av _))
  |true=>
   obtain⟨hl,hr,hp,hh,hx⟩:=eQ hb
   have hp':1<=p.atoms/\p.atoms<=24:=hp
   by_cases hg:1<=most/\most<=100
   ·obtain⟨a,ha⟩:∃a:Nat,most=a:=⟨most.toNat,omg⟩
    subst ha
    have hV:=fun (R:Res) (g:R.σ)=>Ak R p a hb omg g
    have hA:∀(R:Res) [Tab LT R] (g:R.σ),Does Tryd.prog R 27 [au p,.int .i64 a] [] g (.ret (.tup 2 (nth [bo (if 10<(aU (bA p)).length then 0 else(stP p a).length) (fun i=>ag ((stP p a).getD i 0)),.int .i64 (if 10<(aU (bA p)).length then 8 else 0)]))) [] g:=fun R _ g=>by
     by_cases h:10<(aU (bA p)).length
     ·rw[if_pos h,if_pos h]
      exact eK (zI R p a hb omg h g) (toL (h1:=⟨Az (fun j hj=>match j,hj with|0,_=>Le.nil_auto|1,_=>Av _),trivial⟩))
     ·rw[if_neg h,if_neg h]
      exact sS R p a hb omg omg g
    have hst:=(cS (p:=p) (most:=a) (r:=aU (bA p)) (s:=dY p) (out:=[]) (Nat.zero_le _)).2.1
    have hst:(stP p a).length<=a:=hst
    obtain⟨N,hN⟩:∃N,N=if 10<(aU (bA p)).length then 0 else(stP p a).length:=⟨_,rfl⟩
    obtain⟨E,hE⟩:∃E:Int,E=if 10<(aU (bA p)).length then 8 else 0:=⟨_,rfl⟩
    have hNa:N<=a:=by rw[hN];split <;> omega
    have hS:∀(R:Res) (hp:List AObj) (g:R.σ),Does Tryd.prog R 29 [bo N (fun i=>ag ((stP p a).getD i 0)),bo N (fun i=>ag ((stP p a).getD i 0))] hp g (.ret (.bool true)) hp g:=fun R hp g=>wN R _ _ _ hp g omg (fun _ _=>rfl) (fun i=>oH)
    obtain⟨f,hf⟩:∃f,f=(fun i=>ag ((stP p a).getD i 0)):=⟨_,rfl⟩
    simp only[<-hf,<-hN,<-hE] at hS hA hV
    refine vcR [[1,0,1,0]] (lkL [(0,[1,2]),(1,[1,2,11]),(3,[1,2,5,6]),(4,[1,2,5,6,29]),(5,[4]),(6,[5,6,7,8]),(7,[4])]) (lkL [(1,[(1,ROrc.pcall (AV.bool true))]),(3,[(2,ROrc.kcall (tup 2 (nth [bo N f,int i64 E])))]),(4,[(1,ROrc.pcall (AV.bool true))]),(5,[(8,ROrc.kcall (AV.bool true))]),(6,[(2,ROrc.kcall (tup 2 (nth [bo N f,int i64 E])))]),(7,[(6,ROrc.pcall (AV.bool true)),(9,ROrc.kcall (AV.bool true))])]) (fun Q=>(fun (u1:List AObj)=>(fun (u2:Int)=>(fun (u3:Bool)=>2<=2/\(∀(hp:List AObj) (g:R.σ),true=true/\Does Tryd.prog R 14 [au p] hp g (ret (AV.bool true)) hp g)/\(false=true->WpC Tryd.prog R 57 0 6 [1,0,1,0] Q [Kont.seq [1,1]] (St.mk [(1,int i64 u2),(2,ref 0 0),(11,AV.bool false)] u1 g))/\(false=false->2<=2/\(true=true/\Does Tryd.prog R 27 [au p,int i64 u2] u1 g (ret (tup 2 (nth [bo N f,int i64 E]))) u1 g)/\2<=2/\(∀(hp:List AObj) (g:R.σ),true=true/\Does Tryd.prog R 18 [au p] hp g (ret (AV.bool true)) hp g)/\(u3=true->((bif E==2 then(N:Int)==0 else false)=true->true=true/\Does Tryd.prog R 15 [] u1 g (ret (AV.bool true)) u1 g)/\Q AEx.ret (St.mk [(4,AV.bool (bif bif E==2 then(N:Int)==0 else false then true else false))] u1 g))/\(u3=false->2<=2/\(true=true/\Does Tryd.prog R 28 [au p,int i64 u2] u1 g (ret (tup 2 (nth [bo N f,int i64 E]))) u1 g)/\((E==E)=true->∀(hp:List AObj) (g:R.σ),true=true/\Does Tryd.prog R 29 [bo N f,bo N f] hp g (ret (AV.bool true)) hp g)/\((bif E==E then true else false)=true->true=true/\Does Tryd.prog R 15 [] u1 g (ret (AV.bool true)) u1 g)/\Q AEx.ret (St.mk [(4,AV.bool (bif bif E==E then true else false then true else false))] u1 g)))) (bif bif false then true else decide (u2<1) then true else decide (u2 > 100))) ((a:Int))) ([cells false 2 (nth [int i64 p.atoms,ad p.rules])])) ⟨omg,(fun _ _=>⟨rfl,(eJ hsm (lu _ _ _ _))⟩),fun h=>(nomatch h),fun _=>⟨omg,⟨rfl,(doT (T:=LT) [] 1 (fun R _ g=>hA R g))⟩,omg,(fun _ _=>⟨rfl,(eJ hb (nC _ _ _ _ omg))⟩),fun c1=>have c1:(false=true∨(a:Int)<1)∨(a:Int) > 100:=((eI c1).imp (fun h=>((eI h).imp (fun h=>h) (fun h=>(of_decide_eq_true h)))) (fun h=>(of_decide_eq_true h)));⟨(fun hgd=>⟨rfl,(doT (T:=LT) [] 1 (fun R _ g=>kc R g))⟩),?_⟩,fun c1=>have c1:(false=false/\¬(a:Int)<1)/\¬(a:Int) > 100:=⟨⟨(cc (cc c1).1).1,(of_decide_eq_false (cc (cc c1).1).2)⟩,(of_decide_eq_false (cc c1).2)⟩;⟨omg,⟨rfl,(doT (T:=LT) [] 1 (fun R _ g=>hV R g))⟩,(fun hgd=>(fun _ _=>⟨rfl,(hS _ _ _)⟩)),(fun hgd=>⟨rfl,(doT (T:=LT) [] 1 (fun R _ g=>kc R g))⟩),?_⟩⟩⟩
    ·exfalso
     rcases c1 with(h|h)|h
     ·cases h
     ·omega
     ·omega
    ·refine(aw (bt _ _ rfl trivial trivial rfl) (Aw ?_))
     show(AV.bool (bif bif E==E then true else false then true else false))=_
     simp
   ·have hR:∀(R:Res) (g:R.σ),Does Tryd.prog R 27 [au p,.int .i64 most] [] g (.ret (.tup 2 (nth [.fz .nil 0 0 (fun _ _=>.any),.int .i64 2]))) [] g:=fun R g=>sQ R p most omg hs (by rw[hb,decide_eq_false hg];rfl) [] g
    have hgc:(bif (bif false then true else decide (most<1)) then true else decide (most > 100))=true:=by
     by_cases h:most<1
     ·rw[decide_eq_true h];rfl
     ·rw[decide_eq_false h,decide_eq_true omg];rfl
    refine vcR [[1,0,1,0],[1,1,1,0,1,1]] (lkL [(0,[1,2]),(1,[1,2,11]),(3,[1,2,5,6]),(4,[1,2,5,6,29]),(5,[4])]) (lkL [(1,[(1,ROrc.pcall (AV.bool true))]),(3,[(2,ROrc.pcall (tup 2 (nth [fz Fz.nil 0 0 fun _ _=>any,int i64 2])))]),(4,[(1,ROrc.pcall (AV.bool true))]),(5,[(8,ROrc.kcall (AV.bool true))])]) (fun Q=>(fun (u1:List AObj)=>(fun (u2:Bool)=>2<=2/\(∀(hp:List AObj) (g:R.σ),true=true/\Does Tryd.prog R 14 [au p] hp g (ret (AV.bool true)) hp g)/\(false=true->WpC Tryd.prog R 57 0 6 [1,0,1,0] Q [Kont.seq [1,1]] (St.mk [(1,int i64 most),(2,ref 0 0),(11,AV.bool false)] u1 g))/\(false=false->2<=2/\(∀(hp:List AObj) (g:R.σ),true=true/\Does Tryd.prog R 27 [au p,int i64 most] hp g (ret (tup 2 (nth [fz Fz.nil 0 0 fun x x_1=>any,int i64 2]))) hp g)/\2<=2/\(∀(hp:List AObj) (g:R.σ),true=true/\Does Tryd.prog R 18 [au p] hp g (ret (AV.bool true)) hp g)/\(u2=true->(true=true->true=true/\Does Tryd.prog R 15 [] u1 g (ret (AV.bool true)) u1 g)/\Q AEx.ret (St.mk [(4,AV.bool true)] u1 g))/\(u2=false->WpC Tryd.prog R 57 0 6 [1,1,1,0,1,1] Q [Kont.seq [1,1,1,1]] (St.mk [(1,int i64 most),(2,ref 0 0),(5,fz Fz.nil 0 0 fun x x_1=>any),(6,int i64 2),(29,AV.bool u2)] u1 g)))) (bif bif false then true else decide (most<1) then true else decide (most > 100))) ([cells false 2 (nth [int i64 p.atoms,ad p.rules])])) ⟨omg,(fun _ _=>⟨rfl,(eJ hsm (lu _ _ _ _))⟩),fun h=>(nomatch h),fun _=>⟨omg,(fun _ _=>⟨rfl,(sQ _ _ _ omg omg (by simp at * <;> omega) _ _)⟩),omg,(fun _ _=>⟨rfl,(eJ hb (nC _ _ _ _ omg))⟩),fun _=>⟨(fun hgd=>⟨rfl,(doT (T:=LT) [] 1 (fun R _ g=>kc R g))⟩),?_⟩,fun hcc=>(nomatch (hgc.symm.trans hcc))⟩⟩
    refine(aw (bt _ _ rfl trivial trivial rfl) (Av _))
end Go.Avm.Pack
namespace Go.Proofs.YtbdagmhndndliaaDoor
open Go Go.Avm Go.Avm.Pack Go.WideShapes Go.ChangeShapes Go.ChangeAt
def An (cs:Array Value):Obj->Obj
 |.cells _ t frozen=>.cells cs t frozen
 |o=>o
noncomputable def oI (os:Os):World:=
 { World.holding Tryd.prog os ⟨#[],#[],[]⟩ with heap:=(World.holding Tryd.prog os ⟨#[],#[],[]⟩).heap.modify 0 (An #[.int .u8 0,.int .u8 1,.int .u8 56,.int .u8 2,.int .u8 57,.int .u8 49,.int .u8 28,.int .u8 3,.int .u8 61,.int .u8 58,.int .u8 42,.int .u8 50,.int .u8 38,.int .u8 29,.int .u8 17,.int .u8 4,.int .u8 62,.int .u8 47,.int .u8 59,.int .u8 36,.int .u8 45,.int .u8 43,.int .u8 51,.int .u8 22,.int .u8 53,.int .u8 39,.int .u8 33,.int .u8 30,.int .u8 24,.int .u8 18,.int .u8 12,.int .u8 5,.int .u8 63,.int .u8 55,.int .u8 48,.int .u8 27,.int .u8 60,.int .u8 41,.int .u8 37,.int .u8 16,.int .u8 46,.int .u8 35,.int .u8 44,.int .u8 21,.int .u8 52,.int .u8 32,.int .u8 23,.int .u8 11,.int .u8 54,.int .u8 26,.int .u8 40,.int .u8 15,.int .u8 34,.int .u8 20,.int .u8 31,.int .u8 10,.int .u8 25,.int .u8 14,.int .u8 19,.int .u8 9,.int .u8 13,.int .u8 8,.int .u8 7,.int .u8 6]) }
theorem Ao (os:Os):laidMet Tryd.prog Rows.tableStablesRow.laid ((oI os).forCall (fun _ _=>0) ⟨#[],#[.agg #[.int .i64 0,.slice none 0 0],.int .i64 0],[]⟩).memory:=
 laidMet_of_run' 8 (by kernel_rfl) (by kernel_rfl)
theorem Ap (os:Os){H:Type}(enc:TypeId × Value->H):∃places,DataW.whole enc Tryd.prog ((oI os).forCall (fun _ _=>0) ⟨#[],#[.agg #[.int .i64 0,.slice none 0 0],.int .i64 0],[]⟩).memory Tryd.f6.params.toList Rows.tableStablesSpec.vars false (#[.agg #[.int .i64 0,.slice none 0 0],.int .i64 0]:Array Value).toList 8=some ([.agg [.lit (.int .i64 0),.nil],.lit (.int .i64 0)],[],places):=
 ⟨[],by kernel_rfl⟩
theorem Aq (W:World)(h:laidMetH Tryd.prog Rows.tableStablesRow.laid W):cV gsT (dn W):=by
 have h:laidMet Tryd.prog [("math/bits.deBruijn64tab",Lib.tabData .u8 gV)] W:=h
 exact vX (t:=164) (e:=5) (n:=64) (by kernel_rfl) (by kernel_rfl) Tryd.underlying164 Tryd.underlying5 (by kernel_rfl) (by kernel_rfl) h (fun _=>vW)
set_option maxRecDepth 100000 in
theorem Ar (os:Os)(started:os.Started)(H:Type)(enc:TypeId × Value->H)(F:Stop.Interp) :
  ReturnsInHanded {} Tryd.checked os 6 .any ((OpenSpec.ofChange Rows.tableStablesSpec).preRow enc Tryd.prog Tryd.f6 Rows.tableStablesRow.domain Rows.tableStablesRow.apart Rows.tableStablesRow.laid) (((OpenSpec.ofChange Rows.tableStablesSpec).at F).post enc Tryd.prog Tryd.f6 Rows.tableStablesRow.apart Rows.tableStablesRow.fresh Rows.tableStablesRow.handsOn Rows.tableStablesRow.again):=by
 obtain⟨places,hx⟩:=Ap os enc
 exact vY (C:=Tryd.checked) (s:=Rows.tableStablesSpec) (tb:=4) (gs:=gsT) (X:=fun l=>∃a:Prg,True/\∃l',(∃b:Int,True/\∃l'',(l''=[])/\l'=sY b::l'')/\l=au a::l') (by kernel_rfl) started (by kernel_rfl) Tryd.func6
  (witness_row_at (enc:=enc) (C:=Tryd.checked) false (oI os) #[.agg #[.int .i64 0,.slice none 0 0],.int .i64 0] rfl (by kernel_rfl) (by kernel_rfl) (by kernel_rfl)
   (OpenSpec.preRow_of_cond 8 hx (by kernel_rfl) (fun k hk=>by cases hk) (by kernel_rfl) (Ao os)))
  rfl (fun ds h=>by
   match ds,h with
   |[_,_],_=>rfl) (by kernel_rfl)
  (fun t ht=>by
   have ht:t∈([24,3]:List Nat):=ht
   simp only[List.mem_cons,List.not_mem_nil,or_false] at ht
   rcases ht with rfl|rfl <;> exact⟨by kernel_rfl,of_decide_eq_true (by kernel_rfl)⟩) rfl Tryd.underlying4 Aq
  ((qn z2 (qn z3 vQ)))
  (fun avs ⟨a,ha,_,⟨b,hb,_,e0,e1⟩,e2⟩=>by
   subst e0 e1 e2
   exact Am (Res.tab gsT) a b ())
theorem As:Rows.TableStablesSaid:=
 OpenClaim.holds_of_cond 6 Tryd.f6 rfl rfl rfl rfl rfl rfl rfl ⟨rfl,rfl,rfl,rfl,rfl⟩ rfl rfl rfl rfl rfl (by kernel_rfl) Tryd.func6 (by kernel_rfl)
  (of_decide_eq_true (by kernel_rfl)) (by unfold Func.isWrapper;first|(rw[if_pos (by decide +kernel)];kernel_rfl)|(rw[if_neg (by decide +kernel)];exact⟨rfl,rfl⟩))
  (fun os started H enc _ F=>by rw[OpenClaim.pre_eq_preRow];exact Ar os started H enc F)
theorem At (f:FuncId)(fn:Func)(hf:Tryd.pinned.checked.prog.funcNamed "swingle/swinglelaw18.TableStables"=some f)(hfn:Tryd.pinned.checked.prog.funcs[f]? = some fn) :
  true=Tryd.pinned.checked.prog.looks []/\∀(j:Nat) t,fn.params[j]? = some t->Tryd.pinned.checked.prog.wantsStandIn t=false:=by
 obtain rfl:f=6:=Option.some.inj ((show Tryd.prog.funcNamed "swingle/swinglelaw18.TableStables"=some 6 by kernel_rfl).symm.trans hf) |>.symm
 obtain rfl:fn=Tryd.f6:=(Option.some.inj (Tryd.func6.symm.trans hfn)).symm
 refine⟨by kernel_rfl,fun j t ht=>?_⟩
 have hm:t∈(Tryd.f6.params).toList:=Array.mem_toList_iff.2 (Array.mem_of_getElem? ht)
 have hm:t∈([24,3]:List Nat):=hm
 simp only[List.mem_cons,List.not_mem_nil,or_false] at hm
 rcases hm with rfl|rfl
 ·exact(show Tryd.prog.wantsStandIn 24=false by kernel_rfl)
 ·exact(show Tryd.prog.wantsStandIn 3=false by kernel_rfl)
theorem tableStables_holds:Rows.TableStablesCardSaid:=
 Claim7.holds_tied_plain_at .later [] _ _ _ _ As (fun _ h=>by cases h) (by kernel_rfl) (fun _ h=>by cases h) tableStables_row_tie rfl ⟨rfl,rfl⟩ (by kernel_rfl) rfl At (by kernel_rfl)
#print axioms tableStables_holds
end Go.Proofs.YtbdagmhndndliaaDoor
