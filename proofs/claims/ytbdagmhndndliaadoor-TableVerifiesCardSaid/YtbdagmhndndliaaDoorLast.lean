/- TableVerifies returns true, and leaves its arguments as they were. No conditions: every input that can be read as data. -/
import Derived.Test.YtbdagmhndndliaaDoorM5
namespace Go.Avm.Pack
open Go Go.Avm Go.Proofs
open Go.IntKind (i64 u64)
open Go.Avm.AV (int bool any fz fp sl ow ref fn ifc val agg tup)
open Go.Avm.AObj (cells dead)
open Go.Avm.Oc (ret)
set_option maxRecDepth 4000
def tT:KL Step:=⟨[⟨1,tS3⟩],.opn⟩
def tV:KL Int:=⟨[2,2,1,1,3,3],.exa⟩
def tO1:KL Int:=⟨[0],.exa⟩
def tO2:KL Int:=⟨[2,3],.exa⟩
def tO3:KL Int:=⟨[1],.exa⟩
def tO4:KL Int:=⟨[4,5],.exa⟩
def tO (i:Nat):KL Int:=[tO1,tO2,tO3,tO4].getD i ⟨[],.nil⟩
def tM1:KL Int:=⟨[1,2],.exa⟩
def tM2:KL Int:=⟨[0,2],.exa⟩
def tM (i:Nat):KL Int:=[tM1,tM2].getD i ⟨[],.nil⟩
theorem ze:cx tA (fun _=>3) (tT.l.getD 0 default)=false:=by kernel_rfl
theorem zf:(bN (al tA).1).l.map di=tS.l.map di:=by kernel_rfl
theorem zg:∀i,((bN (al tA).1).l.getD i default).atoms.l.length<1000000:=by
 intro i
 match i with
 |0=>exact of_decide_eq_true krf
 |1=>exact of_decide_eq_true krf
 |2=>exact of_decide_eq_true krf
 |_+3=>exact of_decide_eq_true krf
theorem zh:∀i,((dX (hgP tA 1) (ba (hgP tA 1) tA.rules.l 0) (al (az tA (hgP tA 1))).1).l.getD i default).atoms.l.length<1000000:=by
 intro i
 match i with
 |0=>exact of_decide_eq_true krf
 |1=>exact of_decide_eq_true krf
 |2=>exact of_decide_eq_true krf
 |_+3=>exact of_decide_eq_true krf
theorem sB {s:Nat}:(ak s).l.length<1000000:=by
 show(bB s).length<1000000
 rw[gL]
 have:=gK s
 omega
def lsX (n:Nat)(b:Nat->KL Int):AV:=.fz .exa 1 n (fun i _=>ah (b i))
theorem sC (R:Res)(n:Nat)(a b:Nat->KL Int)(hp:List AObj)(g:R.σ)(hn:n<1000000)(h:∀i,i<n->(a i).l=(b i).l)(hl:∀i,(a i).l.length<1000000) :
  Does Tryd.prog R 29 [dh n a,.fz .exa 1 n (fun i _=>ah (b i))] hp g (.ret (.bool true)) hp g:=by
 refine bP (fun R g=>?_) (by exact⟨trivial,trivial,trivial⟩) R hp g
 refine spW (nt:=34) (rs:=[.tmp 4]) (k0:=0) ?_
 refine vcR [] (lkL [(0,[0,1]),(1,[0,1,5])]) (fun _=>[]) (fun (Q:AEx->St R.σ->Prop)=>WpC Tryd.prog R 34 0 29 [1,0,1,0] Q [Kont.blk 0,Kont.seq [1,1]] (St.mk [(0,dh n a),(1,fz Fz.exa 1 n fun (i x:Nat)=>ah (b i)),(5,int i64 0)] [] g)) (?_)
 refine(aX krf (fun (i:Nat)=>⟨[(0,dh n a),(1,fz Fz.exa 1 n fun (i x:Nat)=>ah (b i)),(5,.int .i64 i)],[],g⟩) (fun (i:Nat)=>(i<=n)) (fun (i:Nat)=>(n-i)) 0 (aT ⟨zT _,zT _,(zU krf),trivial⟩ rfl rfl) ?_ (fun i hi=>?_))
 ·omega
 ·have h1:=hl i
  refine vcR [] (lkL [(2,[0,1,5,16]),(4,[0,1,5,28]),(5,[4]),(3,[0,1,5])]) (lkL [(4,[(8,ROrc.pcall (AV.bool (decide ((a i).l=(b i).l))))])]) (fun Q=>(fun (u1:Bool)=>(fun (u2:Int)=>(u1=true->Flw Tryd.prog/\(0<=u2/\u2<(↑n:Int))/\1<=1/\(0<=u2/\u2<(↑n:Int))/\1<=1/\(∀(hp:List AObj) (g:R.σ),true=true/\Does Tryd.prog R 33 [ah (a i),ah (b i)] hp g (ret (AV.bool (decide ((a i).l=(b i).l)))) hp g)/\((!decide ((a i).l=(b i).l))=true->Q AEx.ret (St.mk [(4,AV.bool false)] [] g))/\((!decide ((a i).l=(b i).l))=false->(-9223372036854775808<=u2+1/\u2+1<=9223372036854775807)/\Q AEx.normal (St.mk [(0,dh n a),(1,fz Fz.exa 1 n fun i x=>ah (b i)),(5,int i64 (u2+1))] [] g)))/\(u1=false->Q (AEx.exit 0) (St.mk [(0,dh n a),(1,fz Fz.exa 1 n fun i x=>ah (b i)),(5,int i64 u2),(16,AV.bool u1)] [] g))) ((↑i:Int))) (bif decide ((↑i:Int)<(↑n:Int)) then(↑n:Int)==(↑n:Int) else false)) ⟨fun c1=>have c1:(↑i:Int)<(↑n:Int)/\(↑n:Int)=(↑n:Int):=⟨(of_decide_eq_true (cw c1).1),(beq_iff_eq.mp (cw c1).2)⟩;⟨krf,omg,omg,omg,omg,(fun _ _=>⟨rfl,(qR _ _ _ _ _ omg)⟩),fun c2=>have c2:¬(a i).l=(b i).l:=(of_decide_eq_false ((Bool.not_eq_true' _).mp c2));?_,fun c2=>have c2:(a i).l=(b i).l:=(of_decide_eq_true ((Bool.not_eq_false' _).mp c2));⟨omg,?_⟩⟩,fun c1=>have c1:¬(↑i:Int)<(↑n:Int)∨¬(↑n:Int)=(↑n:Int):=((eY c1).imp (fun h=>(of_decide_eq_false h)) (fun h=>(beq_eq_false_iff_ne.mp h)));?_⟩
  ·exact absurd (h i omg) c2
  ·refine(aQ (i+1) (aT ⟨zT _,zT _,(zU krf),trivial⟩ rfl rfl) ?_ ?_)
   ·omega
   ·omega
  ·refine⟨_,z6 _,vcR [] (lkL [(6,[4])]) (fun _=>[]) (fun (Q:AEx->St R.σ->Prop)=>Q AEx.ret (St.mk [(4,AV.bool ((↑n:Int)==(↑n:Int)))] [] g)) (?_)⟩
   refine(aq (aU _ _ rfl trivial rfl rfl rfl) (zU ?_))
   show(AV.bool ((↑n:Int)==(↑n:Int)))=_
   show AV.bool _=AV.bool _
   simp
theorem j7 (R:Res)[Tab LT R](g:R.σ):Does Tryd.prog R 15 [] [] g (.ret (.bool true)) [] g:=by
 have hD:∀(R:Res) [Tab LT R] (g:R.σ),Does Tryd.prog R 17 [av tA] [] g (.ret (.tup 3 (nth [au (bN (al tA).1),ah (et tA (al tA).2),.int .i64 0]))) [] g:=fun R _ g=>xL R tA lR g
 have hW:∀(R:Res) [Tab LT R] (g:R.σ),Does Tryd.prog R 23 [av tA,au tT] [] g (.ret (.tup 2 (nth [.int .i64 0,.int .i64 7]))) [] g:=fun R _ g=>yp R tA tT lR dcd dcd ze g
 have hO:∀(R:Res) [Tab LT R] (g:R.σ),Does Tryd.prog R 31 [av tA] [] g (.ret (.tup 2 (nth [dh 4 (fun i=>ak ((co tA).getD i 0)),.int .i64 0]))) [] g:=fun R _ g=>by
  have h:=yU R tA lR g
  rw[show(co tA).length=4 by rw[sz];rfl] at h
  exact h
 have hN:∀(R:Res) [Tab LT R] (g:R.σ),Does Tryd.prog R 25 [av tA,.int .i64 1] [] g (.ret (.tup 3 (nth [.int .i64 2,au (dX (hgP tA 1) (ba (hgP tA 1) tA.rules.l 0) (al (az tA (hgP tA 1))).1),.int .i64 0]))) [] g:=fun R _ g=>by
  have h:=yg R tA 1 lR dcd g
  rw[show(1:Int).toNat=1 from rfl,zb] at h
  exact h
 have hT:∀(R:Res) [Tab LT R] (g:R.σ),Does Tryd.prog R 27 [av tB,.int .i64 9] [] g (.ret (.tup 2 (nth [dh 2 (fun i=>ak ((stP tB 9).getD i 0)),.int .i64 0]))) [] g:=fun R _ g=>by
  have h:=y0 R tB 9 y9 dcd zd g
  rw[show(stP tB 9).length=2 by rw[sA];rfl] at h
  exact h
 have hS1:∀(R:Res) (hp:List AObj) (g:R.σ),Does Tryd.prog R 20 [au (bN (al tA).1),au tS] hp g (.ret (.bool true)) hp g:=fun R hp g=>by
  have h:=qS R (bN (al tA).1) tS hp g (by rw[rB,za];decide) zg
  rw[decide_eq_true zf] at h
  exact h
 have hV1:∀(R:Res) (hp:List AObj) (g:R.σ),Does Tryd.prog R 21 [ah (et tA (al tA).2),ah tV] hp g (.ret (.bool true)) hp g:=fun R hp g=>by
  have h:=wu R (et tA (al tA).2) tV hp g (by rw[sy];decide)
  rw[decide_eq_true (show(et tA (al tA).2).l=tV.l from sy)] at h
  exact h
 have hL1:∀(R:Res) (hp:List AObj) (g:R.σ),Does Tryd.prog R 29 [dh 4 (fun i=>ak ((co tA).getD i 0)),lsX 4 tO] hp g (.ret (.bool true)) hp g:=fun R hp g=>sC R 4 _ _ hp g dcd (fun i hi=>by
  rw[sz]
  match i,hi with
  |0,_=>exact of_decide_eq_true krf
  |1,_=>exact of_decide_eq_true krf
  |2,_=>exact of_decide_eq_true krf
  |3,_=>exact of_decide_eq_true krf) (fun i=>sB)
 have hL2:∀(R:Res) (hp:List AObj) (g:R.σ),Does Tryd.prog R 29 [dh 2 (fun i=>ak ((stP tB 9).getD i 0)),lsX 2 tM] hp g (.ret (.bool true)) hp g:=fun R hp g=>sC R 2 _ _ hp g dcd (fun i hi=>by
  rw[sA]
  match i,hi with
  |0,_=>exact of_decide_eq_true krf
  |1,_=>exact of_decide_eq_true krf) (fun i=>sB)
 have hS2:∀(R:Res) (hp:List AObj) (g:R.σ),Does Tryd.prog R 20 [au (dX (hgP tA 1) (ba (hgP tA 1) tA.rules.l 0) (al (az tA (hgP tA 1))).1),au tS] hp g (.ret (.bool true)) hp g:=fun R hp g=>by
  have h:=qS R (dX (hgP tA 1) (ba (hgP tA 1) tA.rules.l 0) (al (az tA (hgP tA 1))).1) tS hp g (of_decide_eq_true krf) zh
  rw[decide_eq_true zc] at h
  exact h
 have hA:∀(R:Res) (hp:List AObj) (g:R.σ),Does Tryd.prog R 44 [] hp g (.ret (av tA)) hp g:=fun R hp g=>c_A R hp g
 have hB:∀(R:Res) (hp:List AObj) (g:R.σ),Does Tryd.prog R 45 [] hp g (.ret (av tB)) hp g:=fun R hp g=>c_B R hp g
 have hC:∀(R:Res) (hp:List AObj) (g:R.σ),Does Tryd.prog R 57 [] hp g (.ret (au tS)) hp g:=fun R hp g=>y8 R hp g
 obtain⟨n1,e1⟩:∃v,v=au (bN (al tA).1):=⟨_,rfl⟩
 obtain⟨n2,e2⟩:∃v,v=ah (et tA (al tA).2):=⟨_,rfl⟩
 obtain⟨n3,e3⟩:∃v,v=dh 4 (fun i=>ak ((co tA).getD i 0)):=⟨_,rfl⟩
 obtain⟨n4,e4⟩:∃v,v=au (dX (hgP tA 1) (ba (hgP tA 1) tA.rules.l 0) (al (az tA (hgP tA 1))).1):=⟨_,rfl⟩
 obtain⟨n5,e5⟩:∃v,v=dh 2 (fun i=>ak ((stP tB 9).getD i 0)):=⟨_,rfl⟩
 simp only[<-e1,<-e2,<-e3,<-e4,<-e5] at hD hO hN hT hS1 hV1 hL1 hL2 hS2
 obtain⟨a,ha⟩:∃v,v=tA:=⟨_,rfl⟩
 obtain⟨b,hb⟩:∃v,v=tB:=⟨_,rfl⟩
 obtain⟨s,hs⟩:∃v,v=tS:=⟨_,rfl⟩
 obtain⟨t,ht⟩:∃v,v=tT:=⟨_,rfl⟩
 obtain⟨v,hv⟩:∃v,v=tV:=⟨_,rfl⟩
 rw[<-ha] at hA hD hW hO hN
 rw[<-hb] at hB hT
 rw[<-hs] at hC hS1 hS2
 rw[<-ht] at hW
 rw[<-hv] at hV1
 obtain⟨o1,w1⟩:∃v,v=tO1:=⟨_,rfl⟩
 obtain⟨o2,w2⟩:∃v,v=tO2:=⟨_,rfl⟩
 obtain⟨o3,w3⟩:∃v,v=tO3:=⟨_,rfl⟩
 obtain⟨o4,w4⟩:∃v,v=tO4:=⟨_,rfl⟩
 obtain⟨m1,w5⟩:∃v,v=tM1:=⟨_,rfl⟩
 obtain⟨m2,w6⟩:∃v,v=tM2:=⟨_,rfl⟩
 obtain⟨q1,w7⟩:∃v,v=tO:=⟨_,rfl⟩
 obtain⟨q2,w8⟩:∃v,v=tM:=⟨_,rfl⟩
 rw[<-w7] at hL1
 rw[<-w8] at hL2
 refine spW (nt:=97) (rs:=[.tmp 0]) (k0:=0) ?_
 refine vcR [[1,1,1,1,1,1,0,1,0]] (lkL [(1,[1,2,3]),(2,[1,2,3,4,5]),(3,[1,2,3,4,5,6,7]),(4,[1,2,3,4,5,6,7,8,9,10]),(5,[1,2,3,4,5,6,7,8,9,10,11,12]),(6,[1,2,4,6,8,9,11,59]),(8,[0])]) (lkL [(1,[(0,ROrc.pcall (av a)),(1,ROrc.kcall (tup 3 (nth [n1,n2,int i64 0])))]),(2,[(0,ROrc.pcall (av a)),(1,ROrc.pcall (au s)),(2,ROrc.kop (au t)),(3,ROrc.kcall (tup 2 (nth [int i64 0,int i64 7])))]),(3,[(0,ROrc.pcall (av a)),(1,ROrc.kcall (tup 2 (nth [n3,int i64 0])))]),(4,[(0,ROrc.pcall (av a)),(1,ROrc.kcall (tup 3 (nth [int i64 2,n4,int i64 0])))]),(5,[(0,ROrc.pcall (av b)),(1,ROrc.kcall (tup 2 (nth [n5,int i64 0])))]),(8,[(1,ROrc.pcall (au s)),(2,ROrc.pcall (AV.bool true)),(5,ROrc.kop (ah v)),(6,ROrc.pcall (AV.bool true)),(14,ROrc.kop (ah o1)),(15,ROrc.kop (ah o2)),(16,ROrc.kop (ah o3)),(17,ROrc.kop (ah o4)),(18,ROrc.kop (lsX 4 q1)),(19,ROrc.pcall (AV.bool true)),(27,ROrc.pcall (au s)),(28,ROrc.pcall (AV.bool true)),(32,ROrc.kop (ah m1)),(33,ROrc.kop (ah m2)),(34,ROrc.kop (lsX 2 q2)),(35,ROrc.pcall (AV.bool true))])]) (fun Q=>(fun (u1:List Row)=>(fun (u2:List Row)=>(fun (u3:List (Nat × AV))=>(fun (u4:List Row)=>(fun (u5:Operand)=>(fun (u6:Nat × Bool)=>(fun (u7:List Edge)=>(fun (u8:Operand)=>(fun (u9:List Row)=>(fun (u10:Operand)=>(fun (u11:List Row)=>(∀(hp:List AObj) (g:R.σ),true=true/\Does Tryd.prog R 44 [] hp g (ret (av a)) hp g)/\(true=true/\Does Tryd.prog R 17 [av a] [] g (ret (tup 3 (nth [n1,n2,int i64 0]))) [] g)/\(∀(hp:List AObj) (g:R.σ),true=true/\Does Tryd.prog R 44 [] hp g (ret (av a)) hp g)/\(∀(hp:List AObj) (g:R.σ),true=true/\Does Tryd.prog R 57 [] hp g (ret (au s)) hp g)/\OpOk Tryd.prog R (Oper.mk (some 22) (Op.slice 29 (Operand.tmp 21) (some u5) none none) 29 "law.go:36" #[Edge.mk 1 Ground.data] none) (evO [Row.mk (some 21) none (au s) false (some []) [],Row.mk (some 20) none (av a) false (some []) []] [(1,n1),(2,n2),(3,int i64 0)] []) [] g (au t) [] g/\(true=true/\Does Tryd.prog R 23 [av a,au t] [] g (ret (tup 2 (nth [int i64 0,int i64 7]))) [] g)/\(∀(hp:List AObj) (g:R.σ),true=true/\Does Tryd.prog R 44 [] hp g (ret (av a)) hp g)/\(true=true/\Does Tryd.prog R 31 [av a] [] g (ret (tup 2 (nth [n3,int i64 0]))) [] g)/\(∀(hp:List AObj) (g:R.σ),true=true/\Does Tryd.prog R 44 [] hp g (ret (av a)) hp g)/\(true=true/\Does Tryd.prog R 25 [av a,int i64 1] [] g (ret (tup 3 (nth [int i64 2,n4,int i64 0]))) [] g)/\(∀(hp:List AObj) (g:R.σ),true=true/\Does Tryd.prog R 45 [] hp g (ret (av b)) hp g)/\(true=true/\Does Tryd.prog R 27 [av b,int i64 9] [] g (ret (tup 2 (nth [n5,int i64 0]))) [] g)/\(false=true->WpC Tryd.prog R 97 0 15 [1,1,1,1,1,1,0,1,0] Q [Kont.seq [1,1,1,1,1,1,1]] (St.mk u3 [] g))/\(false=false->(∀(hp:List AObj) (g:R.σ),true=true/\Does Tryd.prog R 57 [] hp g (ret (au s)) hp g)/\(∀(hp:List AObj) (g:R.σ),true=true/\Does Tryd.prog R 20 [n1,au s] hp g (ret (AV.bool true)) hp g)/\(true=true->OpOk Tryd.prog R (Oper.mk (some 65) (Op.buildSlice 33 6 #[(0,u5),(1,u5),(2,u8),(3,u8),(4,u10),(5,u10)]) 33 "law.go:43" #[Edge.mk 3 Ground.guard] (some (3,true))) (evO [Row.mk (some 64) (some (3,true)) n2 false (some []) [],Row.mk (some 63) none (AV.bool true) false (some []) [],Row.mk (some 62) none (AV.bool true) false (some []) [],Row.mk (some 61) none (au s) false (some []) [],Row.mk (some 60) none n1 false (some []) []] u3 [(3,true)]) [] g (ah v) [] g)/\(true=true->∀(hp:List AObj) (g:R.σ),true=true/\Does Tryd.prog R 21 [n2,ah v] hp g (ret (AV.bool true)) hp g)/\(true=true->OpOk Tryd.prog R (Oper.mk (some 74) (Op.buildSlice 53 1 #[(0,Operand.const (Value.int i64 0))]) 53 "law.go:43" (List.toArray u7) (some u6)) (evO u1 u3 [u6]) [] g (ah o1) [] g)/\(true=true->OpOk Tryd.prog R (Oper.mk (some 75) (Op.buildSlice 53 2 #[(0,u5),(1,u10)]) 53 "law.go:43" (List.toArray u7) (some u6)) (evO (Row.mk (some 74) (some u6) (ah o1) true (some []) []::u1) u3 [u6]) [] g (ah o2) [] g)/\(true=true->OpOk Tryd.prog R (Oper.mk (some 76) (Op.buildSlice 53 1 #[(0,u8)]) 53 "law.go:43" (List.toArray u7) (some u6)) (evO u4 u3 [u6]) [] g (ah o3) [] g)/\(true=true->OpOk Tryd.prog R (Oper.mk (some 77) (Op.buildSlice 53 2 #[(0,Operand.const (Value.int i64 4)),(1,Operand.const (Value.int i64 5))]) 53 "law.go:43" (List.toArray u7) (some u6)) (evO u11 u3 [u6]) [] g (ah o4) [] g)/\(true=true->OpOk Tryd.prog R (Oper.mk (some 78) (Op.buildSlice 49 4 #[(0,Operand.tmp 74),(1,Operand.tmp 75),(2,Operand.tmp 76),(3,Operand.tmp 77)]) 49 "law.go:43" (List.toArray (Edge.mk 14 Ground.data::Edge.mk 15 Ground.data::Edge.mk 16 Ground.data::Edge.mk 17 Ground.data::u7)) (some u6)) (evO (Row.mk (some 77) (some u6) (ah o4) true (some []) []::u11) u3 [u6]) [] g (fz Fz.exa 1 4 fun i x=>ah (q1 i)) [] g)/\(true=true->∀(hp:List AObj) (g:R.σ),true=true/\Does Tryd.prog R 29 [n3,fz Fz.exa 1 4 fun i x=>ah (q1 i)] hp g (ret (AV.bool true)) hp g)/\(true=true->∀(hp:List AObj) (g:R.σ),true=true/\Does Tryd.prog R 57 [] hp g (ret (au s)) hp g)/\(true=true->∀(hp:List AObj) (g:R.σ),true=true/\Does Tryd.prog R 20 [n4,au s] hp g (ret (AV.bool true)) hp g)/\(true=true->OpOk Tryd.prog R (Oper.mk (some 92) (Op.buildSlice 53 2 #[(0,u8),(1,u5)]) 53 "law.go:43" #[Edge.mk 30 Ground.guard] (some (30,true))) (evO u2 u3 [(30,true)]) [] g (ah m1) [] g)/\(true=true->OpOk Tryd.prog R (Oper.mk (some 93) (Op.buildSlice 53 2 #[(0,Operand.const (Value.int i64 0)),(1,u5)]) 53 "law.go:43" #[Edge.mk 30 Ground.guard] (some (30,true))) (evO u9 u3 [(30,true)]) [] g (ah m2) [] g)/\(true=true->OpOk Tryd.prog R (Oper.mk (some 94) (Op.buildSlice 49 2 #[(0,Operand.tmp 92),(1,Operand.tmp 93)]) 49 "law.go:43" #[Edge.mk 32 Ground.data,Edge.mk 33 Ground.data,Edge.mk 30 Ground.guard] (some (30,true))) (evO (Row.mk (some 93) (some (30,true)) (ah m2) true (some []) []::u9) u3 [(30,true)]) [] g (fz Fz.exa 1 2 fun i x=>ah (q2 i)) [] g)/\(true=true->∀(hp:List AObj) (g:R.σ),true=true/\Does Tryd.prog R 29 [n5,fz Fz.exa 1 2 fun i x=>ah (q2 i)] hp g (ret (AV.bool true)) hp g)/\Q AEx.ret (St.mk [(0,AV.bool true)] [] g))) (Row.mk (some 76) (some u6) (ah o3) true (some []) []::u4)) (Operand.const (Value.int i64 3))) (Row.mk (some 92) (some (30,true)) (ah m1) true (some []) []::u2)) (Operand.const (Value.int i64 1))) ([Edge.mk 12 Ground.guard])) ((12,true))) (Operand.const (Value.int i64 2))) (Row.mk (some 75) (some (12,true)) (ah o2) true (some []) []::Row.mk (some 74) (some (12,true)) (ah o1) true (some []) []::u1)) ([(1,n1),(2,n2),(4,int i64 0),(6,n3),(8,int i64 2),(9,n4),(11,n5),(59,AV.bool false)])) (Row.mk (some 91) (some (30,true)) n5 false (some []) []::Row.mk (some 90) none (AV.bool true) false (some []) []::Row.mk (some 89) none (AV.bool true) false (some []) []::Row.mk (some 88) (some (25,true)) (AV.bool true) false (some []) []::Row.mk (some 87) (some (25,true)) (au s) false (some []) []::Row.mk (some 86) (some (25,true)) n4 false (some []) []::Row.mk (some 85) none (AV.bool true) false (some []) []::Row.mk (some 84) none (AV.bool true) false (some []) []::Row.mk (some 83) (some (21,true)) (AV.bool true) false (some []) []::Row.mk (some 82) (some (21,true)) (int i64 2) false (some []) []::Row.mk (some 81) none (AV.bool true) false (some []) []::Row.mk (some 80) none (AV.bool true) false (some []) []::Row.mk (some 79) (some (12,true)) (AV.bool true) false (some []) []::Row.mk (some 78) (some (12,true)) (fz Fz.exa 1 4 fun i x=>ah (q1 i)) true (some []) []::Row.mk (some 77) (some (12,true)) (ah o4) true (some []) []::Row.mk (some 76) (some (12,true)) (ah o3) true (some []) []::Row.mk (some 75) (some (12,true)) (ah o2) true (some []) []::Row.mk (some 74) (some (12,true)) (ah o1) true (some []) []::u1)) ([Row.mk (some 73) (some (12,true)) n3 false (some []) [],Row.mk (some 72) none (AV.bool true) false (some []) [],Row.mk (some 71) none (AV.bool true) false (some []) [],Row.mk (some 70) (some (8,true)) (AV.bool true) false (some []) [],Row.mk (some 69) (some (8,true)) (int i64 0) false (some []) [],Row.mk (some 68) none (AV.bool true) false (some []) [],Row.mk (some 67) none (AV.bool true) false (some []) [],Row.mk (some 66) (some (3,true)) (AV.bool true) false (some []) [],Row.mk (some 65) (some (3,true)) (ah v) true (some []) [],Row.mk (some 64) (some (3,true)) n2 false (some []) [],Row.mk (some 63) none (AV.bool true) false (some []) [],Row.mk (some 62) none (AV.bool true) false (some []) [],Row.mk (some 61) none (au s) false (some []) [],Row.mk (some 60) none n1 false (some []) []])) ⟨(fun _ _=>⟨rfl,(hA _ _ _)⟩),⟨rfl,(hD _ _)⟩,(fun _ _=>⟨rfl,(hA _ _ _)⟩),(fun _ _=>⟨rfl,(hC _ _ _)⟩),?_,⟨rfl,(hW _ _)⟩,(fun _ _=>⟨rfl,(hA _ _ _)⟩),⟨rfl,(hO _ _)⟩,(fun _ _=>⟨rfl,(hA _ _ _)⟩),⟨rfl,(hN _ _)⟩,(fun _ _=>⟨rfl,(hB _ _ _)⟩),⟨rfl,(hT _ _)⟩,fun h=>(nomatch h),fun _=>⟨(fun _ _=>⟨rfl,(hC _ _ _)⟩),(fun _ _=>⟨rfl,(hS1 _ _ _)⟩),?_,(fun hgd=>(fun _ _=>⟨rfl,(hV1 _ _ _)⟩)),?_,?_,?_,?_,?_,(fun hgd=>(fun _ _=>⟨rfl,(hL1 _ _ _)⟩)),(fun hgd=>(fun _ _=>⟨rfl,(hC _ _ _)⟩)),(fun hgd=>(fun _ _=>⟨rfl,(hS2 _ _ _)⟩)),?_,?_,?_,(fun hgd=>(fun _ _=>⟨rfl,(hL2 _ _ _)⟩)),?_⟩⟩
 ·subst hs ht
  exact m5 rfl (by exact⟨Nat.le_refl _,⟨dcd,dcd⟩,trivial⟩) (mP rfl (fun i j hi hj=>match i,hi with|0,_=>rfl))
 ·intro _;subst hv;exact bX (n:=6) (es:=1) krf (by exact⟨trivial,trivial,trivial,trivial,trivial,trivial,trivial⟩) rfl rfl (fun i hi j hj=>match i,hi,j,hj with|0,_,0,_=>krf|1,_,0,_=>krf|2,_,0,_=>krf|3,_,0,_=>krf|4,_,0,_=>krf|5,_,0,_=>krf ) (fun i hi j hj=>match i,hi,j,hj with|0,_,0,_=>trivial|1,_,0,_=>trivial|2,_,0,_=>trivial|3,_,0,_=>trivial|4,_,0,_=>trivial|5,_,0,_=>trivial )
 ·intro _;subst w1;exact bX (n:=1) (es:=1) krf (by exact⟨trivial,trivial⟩) rfl rfl (fun i hi j hj=>match i,hi,j,hj with|0,_,0,_=>krf ) (fun i hi j hj=>match i,hi,j,hj with|0,_,0,_=>trivial )
 ·intro _;subst w2;exact bX (n:=2) (es:=1) krf (by exact⟨trivial,trivial,trivial⟩) rfl rfl (fun i hi j hj=>match i,hi,j,hj with|0,_,0,_=>krf|1,_,0,_=>krf ) (fun i hi j hj=>match i,hi,j,hj with|0,_,0,_=>trivial|1,_,0,_=>trivial )
 ·intro _;subst w3;exact bX (n:=1) (es:=1) krf (by exact⟨trivial,trivial⟩) rfl rfl (fun i hi j hj=>match i,hi,j,hj with|0,_,0,_=>krf ) (fun i hi j hj=>match i,hi,j,hj with|0,_,0,_=>trivial )
 ·intro _;subst w4;exact bX (n:=2) (es:=1) krf (by exact⟨trivial,trivial,trivial⟩) rfl rfl (fun i hi j hj=>match i,hi,j,hj with|0,_,0,_=>krf|1,_,0,_=>krf ) (fun i hi j hj=>match i,hi,j,hj with|0,_,0,_=>trivial|1,_,0,_=>trivial )
 ·intro _;subst w1 w2 w3 w4 w7;exact bX (n:=4) (es:=1) krf (by exact⟨trivial,trivial,trivial,trivial,trivial⟩) rfl rfl (fun i hi j hj=>match i,hi,j,hj with|0,_,0,_=>krf|1,_,0,_=>krf|2,_,0,_=>krf|3,_,0,_=>krf ) (fun i hi j hj=>match i,hi,j,hj with|0,_,0,_=>trivial|1,_,0,_=>trivial|2,_,0,_=>trivial|3,_,0,_=>trivial )
 ·intro _;subst w5;exact bX (n:=2) (es:=1) krf (by exact⟨trivial,trivial,trivial⟩) rfl rfl (fun i hi j hj=>match i,hi,j,hj with|0,_,0,_=>krf|1,_,0,_=>krf ) (fun i hi j hj=>match i,hi,j,hj with|0,_,0,_=>trivial|1,_,0,_=>trivial )
 ·intro _;subst w6;exact bX (n:=2) (es:=1) krf (by exact⟨trivial,trivial,trivial⟩) rfl rfl (fun i hi j hj=>match i,hi,j,hj with|0,_,0,_=>krf|1,_,0,_=>krf ) (fun i hi j hj=>match i,hi,j,hj with|0,_,0,_=>trivial|1,_,0,_=>trivial )
 ·intro _;subst w5 w6 w8;exact bX (n:=2) (es:=1) krf (by exact⟨trivial,trivial,trivial⟩) rfl rfl (fun i hi j hj=>match i,hi,j,hj with|0,_,0,_=>krf|1,_,0,_=>krf ) (fun i hi j hj=>match i,hi,j,hj with|0,_,0,_=>trivial|1,_,0,_=>trivial )
 ·refine(aq (aU _ _ rfl trivial rfl rfl rfl) (zT _))
def lS {U:Type}(x:Fz × List U):KL U:=⟨x.2,x.1⟩
theorem zi:Rea Tryd.prog 77 2 (fun _:Lit=>True) iu:=
 Rea.map (kM Tryd.underlying77 krf (fW rfl krf (ju Tryd.underlying3) (fW rfl krf (vb Tryd.underlying4) kL)))
  (fun x:Int × Bool × Unit=>⟨x.1,x.2.1⟩) (fun _ _=>trivial) (fun x j hj=>match j,hj with|0,_=>rfl|1,_=>rfl)
theorem zj:Rea Tryd.prog 73 1 (fun _:KL Lit=>True) (fun x _=>am x):=
 Rea.map (kN Tryd.underlying73 krf omg zi) lS (fun _ _=>trivial) (fun x j hj=>rfl)
theorem zk:Rea Tryd.prog 75 2 (fun _:Rule=>True) bx:=by
 have h:=kM (n:=2) Tryd.underlying75 krf (fW rfl (m:=1) krf (ju Tryd.underlying3) (fW rfl (m:=1) krf zj kL))
 exact h.map (fun x=>⟨x.1,x.2.1⟩) (fun _ _=>trivial) (fun x j hj=>match j,hj with|0,_=>rfl|1,_=>rfl)
theorem zl:Rea Tryd.prog 22 1 (fun _:KL Rule=>True) (fun x _=>af x):=
 Rea.map (kN Tryd.underlying22 krf omg zk) lS (fun _ _=>trivial) (fun x j hj=>rfl)
theorem zm:Rea Tryd.prog 24 2 (fun _:Prg=>True) (fun p=>nth [.int .i64 p.atoms,af p.rules]):=by
 have h:=kM (n:=2) Tryd.underlying24 krf (fW rfl (m:=1) krf (ju Tryd.underlying3) (fW rfl (m:=1) krf zl kL))
 exact h.map (fun x=>⟨x.1,x.2.1⟩) (fun _ _=>trivial) (fun x j hj=>match j,hj with|0,_=>rfl|1,_=>rfl)
theorem zn:Arg Tryd.prog 24 (fun _:Prg=>True) av:=vh Tryd.underlying24 zm
structure OrdAll (p:Prg)(n left:Nat)(L:List Nat):Prop where
 is:∀i,i<L.length->∃A,A<n/\L.getD i 0=aw p A
 cov:∀a,left.testBit a=true->∃i,i<L.length/\(L.getD i 0).testBit a=true
 sub:∀i a,i<L.length->(L.getD i 0).testBit a=true->left.testBit a=true
 ord:∀i j a b,i<j->j<L.length->(L.getD i 0).testBit a=true->(L.getD j 0).testBit b=true->¬Reach p a b
structure CompOk (p:Prg)(n:Nat)(L:List Nat)(v:List Int):Prop where
 len:v.length=n
 at_:∀a,a<n->0<=v.getD a 0/\v.getD a 0<L.length
 up:∀a b,a<n->Reach p a b->b<n/\v.getD b 0<=v.getD a 0
 same:∀a b,a<n->(L.getD (v.getD a 0).toNat 0).testBit b=true->Reach p a b
def itB (D:List Bool->List Bool × Bool):Nat->List Bool->List Bool
 |0,s=>s
 |k+1,s=>if (D s).2 then itB D k (D s).1 else s
structure ItOk (D:List Bool->List Bool × Bool)(n:Nat)(T:List Bool)(x:List Bool × Bool):Prop where
 len:x.1.length=n
 go:x.2=true->∃f,iG x.1<f/\itB D f x.1=T
 stop:x.2=false->x.1=T
def lT (n s:Nat):List Bool:=(List.range n).map fun j=>s.testBit j
structure ModC (p:Prg)(most n:Nat)(r:List Int):Prop where
 nn:∀(R:Res) (s:Nat) (g:R.σ),s<2^n->stF p most r s []=[]->Does Tryd.prog R 81 [av p,iH (lT n s),ah ⟨r,.may⟩,.int .i64 most,.fz .nil 0 0 (fun _ _=>.any)] [] g (.ret (.fz .nil 0 0 (fun _ _=>.any))) [] g
 nw:∀(R:Res) (s m:Nat) (L:List Nat) (g:R.σ),s<2^n->stF p most r s []=L->L≠[]->m=L.length->Does Tryd.prog R 81 [av p,iH (lT n s),ah ⟨r,.may⟩,.int .i64 most,.fz .nil 0 0 (fun _ _=>.any)] [] g (.ret (.ow true 0 m 1)) [.cells false (m*1) (aH L)] g
 on:∀(R:Res) (s m:Nat) (L:List Nat) (g:R.σ),s<2^n->L≠[]->m=L.length->m<=most->stF p most r s L=L->Does Tryd.prog R 81 [av p,iH (lT n s),ah ⟨r,.may⟩,.int .i64 most,.ow true 0 m 1] [.cells false (m*1) (aH L)] g (.ret (.ow true 0 m 1)) [.cells false (m*1) (aH L)] g
 ow:∀(R:Res) (s m m':Nat) (L L':List Nat) (g:R.σ),s<2^n->L≠[]->m=L.length->m<=most->stF p most r s L=L'->m'=L'.length->m≠m'->Does Tryd.prog R 81 [av p,iH (lT n s),ah ⟨r,.may⟩,.int .i64 most,.ow true 0 m 1] [.cells false (m*1) (aH L)] g (.ret (.ow true 1 m' 1)) [.dead,.cells false (m'*1) (aH L')] g
def ov (b:Nat->Bool)(i:Nat):Nat->AV:=fun j=>.bool (decide (j<i)&&b j)
theorem qE {k:Nat}(b:Nat->Bool)(i j:Nat):Below k (ov b i j):=trivial
theorem qN {f:Nat->Nat}(h:True){b:Nat->Bool}{i j:Nat}:aF f (ov b i j)=ov b i j:=rfl
structure Set2 (p:Prg)(v:Nat->Int):Prop where
 dom:∀a,v a=1∨v a=2∨v a=3
 rng:∀a,v a≠3->a<p.atoms.toNat
 yes:∃(rk:Nat->Nat) (N:Nat),∀a,v a=2->rk a<N/\∃r,r∈p.rules.l/\r.head.toNat=a/\dj v r=true/\∀l,l∈r.body.l->l.neg=false->rk l.atom.toNat<rk a
 no:∀a,v a=1->∀r,r∈p.rules.l->r.head.toNat=a->∃l,l∈r.body.l/\bY v l=1
structure Fin2 (p:Prg)(v:Nat->Int):Prop extends Set2 p v where
 fire:∀r,r∈p.rules.l->dj v r=true->v r.head.toNat=2
 unf:∀m:Nat->Bool,yO p v m->(∀j,m j=true->j<p.atoms.toNat/\v j=3)->∀j,m j=false
section
variable {R:Res}
theorem zo [Tab LT R]{nt k0 f0:Nat}{b:Code}{p:List Nat}{Q:AEx->St R.σ->Prop}{s:St R.σ}(t:Nat)(psl:List Nat)(m:Nat)(hrl:io t psl (sub b p)=true){fa fb:Nat->AV}(hf:lk s.fr t=.fn 105 0 fa 1 fb)(hfb:fb 0=.ref m 0)
  (S K:Nat) (hS:S<2^24) (H:List AObj) (h0:To R k0 s ⟨s.fr,H++[.cells false 1 (fun _=>.int .u64 S)],s.g⟩) (hl:H.length=m)
  (hlive:du (H++[.cells false 1 (fun _=>.int .u64 S)])) (hBO:e7 m H) (hlen:1=psl.length) (hlt:bw psl nt=true) (ts:List Nat) (hBf:fY ts (fun t=>Below m (lk s.fr t)))
  (hround:∀k l,k<K->k<(ai S).length->Wp Tryd.prog R nt m (.inr l) b (p++[0]) (m4 Tryd.prog R nt m l b (p++[1]) none H s.g) ⟨cE psl [.int .i64 (((ai S).getD k 0:Nat):Int)] (dH ts s.fr),H,s.g⟩)
  (hKl:K<(ai S).length) (hlast:∀l,Wp Tryd.prog R nt (m+1) (.inr l) b (p++[0]) (su Tryd.prog R nt l b (p++[1]) ((Tryd.prog.funcs[f0]?).isSome=true) (fun e s3=>Q e ⟨s.fr,s3.hp,s3.g⟩)) ⟨cE psl [.int .i64 (((ai S).getD K 0:Nat):Int)] s.fr,H++[.dead],s.g⟩) :
  WpB Tryd.prog R nt k0 f0 b p Q s:=by
 obtain⟨ps,assign,body,hc,rfl⟩:∃ps assign body,sub b p=.rangeFunc (.tmp t) ps assign body/\ps.toList=psl:=by
  unfold io at hrl
  split at hrl
  ·rename_i u ps assign body hs
   simp only[Bool.and_eq_true] at hrl
   have:=Nat.eq_of_beq_eq_true hrl.1
   subst this
   exact⟨ps,assign,body,hs,jp hrl.2⟩
  ·cases hrl
 have e0:sub b (p++[0])=assign:=by rw[cd,hc];exact cH assign
 have e1:sub b (p++[1])=body:=by rw[cd,hc];exact cH body
 refine vW h0 ⟨fun C hC n a w hH=>?_⟩
 rw[hc]
 refine vR rfl (sr (s:=⟨s.fr,H++[.cells false 1 (fun _=>.int .u64 S)],s.g⟩) (K:=K) hf hfb hS rfl hl hlive hBO hlen hlt ts hBf (fun k hk hkN l=>?_) (fun _ l=>?_) (fun h=>absurd hKl omg) hC hH)
 ·have h1:=(hround k l hk hkN).h
  rw[e0] at h1
  rw[show(St.hp ⟨cE ps.toList [.int .i64 (((ai S).getD k 0:Nat):Int)] (dH ts s.fr),H,s.g⟩).length=m from hl]
  refine hZ h1 (fun e s' hq=>?_)
  cases e with
  |normal=>
   have h2:=(show Wp _ _ _ _ _ _ _ _ _ from hq).h
   rw[e1] at h2
   exact⟨rfl,h2⟩
  |exit id=>exact hq.elim
  |ret=>exact hq.elim
  |pan v=>exact hq.elim
 ·have h1:=(hlast l).h
  rw[e0] at h1
  refine hZ h1 (fun e s' hq=>?_)
  cases e with
  |normal=>
   have h2:=(show Wp _ _ _ _ _ _ _ _ _ from hq).h
   rw[e1] at h2
   exact⟨rfl,h2⟩
  |exit id=>exact hq.elim
  |ret=>exact hq.elim
  |pan v=>exact hq.elim
end
theorem zp (R:Res)[Tab LT R](p:Prg)(v:Nat->Int)(es:List (Value × AV))(s:Step)(hl:p.rules.l.length<1000000)(hr:∀r,r∈p.rules.l->aK r)(hes:HeadsOk es p.rules.l)(hp:1<=p.atoms/\p.atoms<=24)(hsl:s.atoms.l.length<1000000)(hc:cF p v s.atoms.l=true)(hn:dw p v (aO s.atoms.l)=false)(g:R.σ):Does Tryd.prog R 139 [aY s,.ref 0 0] [.cells false 27 (ae p v (.mp 1)),.map es] g (.pan (.ifc 145 (.agg 0 (nth [])))) [.cells false 27 (ae p v (.mp 1)),.map es] g:=by
 unfold cF at hc
 rw[Bool.and_eq_true,decide_eq_true_eq,List.all_eq_true] at hc
 have h0:(s.atoms.l.length:Int) > 0:=by omega
 have hck:∀j,j<s.atoms.l.length->cL p v s.atoms.l j=true:=fun j hj=>hc.2 j (List.mem_range.2 hj)
 refine vY (nt:=79) (k0:=2) krf krf rfl ?_
 refine jA krf ?_
 refine vcR [] (lkL [(0,[2,3])]) (fun _=>[]) (fun (Q:AEx->St R.σ->Prop)=>Q AEx.normal (St.mk [(2,ref 2 0),(3,ref 3 0)] [cells false 27 (ae p v (AV.mp 1)),AObj.map es,cells false 2 (nth [int i64 s.rule,ah s.atoms]),cells false 1 fun (a:Nat)=>ref 0 0] g)) (?_)
 show WpB _ _ _ _ _ _ _ _ _
 refine jA krf ?_
 refine vcR [] (lkL [(1,[2,3])]) (lkL [(1,[(5,ROrc.pcall (tup 0 (nth [])))])]) (fun Q=>2<=2/\(∀(hp:List AObj) (g:R.σ),true=true/\Does Tryd.prog R 140 [AV.bool (decide ((↑(List.length s.atoms.l):Int) > 0))] hp g (ret (tup 0 (nth []))) hp g)/\Q AEx.normal (St.mk [(2,ref 2 0),(3,ref 3 0)] [cells false 27 (ae p v (AV.mp 1)),AObj.map es,cells false 2 (nth [int i64 s.rule,ah s.atoms]),cells false 1 fun a=>ref 0 0] g)) ⟨omg,(fun _ _=>⟨rfl,(dI _ _ (by simp at * <;> omega) _ _)⟩),?_⟩
 show WpB _ _ _ _ _ _ _ _ _
 refine jA krf ?_
 refine vcR [] (lkL [(2,[2,3,4])]) (fun _=>[]) (fun (Q:AEx->St R.σ->Prop)=>Q AEx.normal (St.mk [(2,ref 2 0),(3,ref 3 0),(4,ref 4 0)] [cells false 27 (ae p v (AV.mp 1)),AObj.map es,cells false 2 (nth [int i64 s.rule,ah s.atoms]),cells false 1 fun (a:Nat)=>ref 0 0,cells false 1 fun (a:Nat)=>int u64 0] g)) (?_)
 show WpB _ _ _ _ _ _ _ _ _
 refine jA krf ?_
 refine vcR [] (lkL [(3,[2,3,4,17,18,19])]) (fun _=>[]) (fun Q=>2<=2/\WpC Tryd.prog R 79 2 139 [1,1,1,0,1,0] Q [Kont.blk 0] (St.mk [(2,ref 2 0),(3,ref 3 0),(4,ref 4 0),(17,ah s.atoms),(18,int i64 (↑(List.length s.atoms.l):Int)),(19,int i64 0)] [cells false 27 (ae p v (AV.mp 1)),AObj.map es,cells false 2 (nth [int i64 s.rule,ah s.atoms]),cells false 1 fun a=>ref 0 0,cells false 1 fun a=>int u64 0] g)) ⟨omg,?_⟩
 refine(aX krf (fun (i:Nat)=>⟨[(2,ref 2 0),(3,ref 3 0),(4,ref 4 0),(17,ah s.atoms),(18,int i64 (s.atoms.l.length:Int)),(19,.int .i64 i)],[.cells false 27 (ae p v (.mp 1)),.map es,.cells false 2 (nth [.int .i64 s.rule,ah s.atoms]),.cells false 1 (fun _=>.ref 0 0),.cells false 1 (fun _=>.int .u64 (aO (s.atoms.l.take i)))],g⟩) (fun (i:Nat)=>(i<=s.atoms.l.length/\aO (s.atoms.l.take i)<2^24)) (fun (i:Nat)=>(s.atoms.l.length-i)) 0 (toL (h1:=⟨zT _,zT _,zT _,zT _,zT _,(zU krf),trivial⟩)) ?_ (fun i hi=>?_))
 ·exact⟨Nat.zero_le _,(by decide:(0:Nat)<2^24)⟩
 ·obtain⟨h1,h2⟩:=hi
  rcases Nat.lt_or_ge i s.atoms.l.length with hlt|hge
  ·have hx:=nv hlt
   have hm:=hck i hlt
   have hm':(bif dJ p s.atoms.l i then v (s.atoms.l.getD i 0).toNat==3 else false)=true:=hm
   have hA:=jJ (lp hm)
   refine vcR [] (lkL [(4,[2,3,4,17,18,19,20]),(5,[2,3,4,5,6,17,18,19]),(6,[2,3,4,6,17,18,19]),(7,[2,3,4,17,18,19]),(8,[2,3,4,17,18,19])]) (lkL [(6,[(7,ROrc.pcall (AV.bool (decide (0<=List.getD s.atoms.l i 0/\List.getD s.atoms.l i 0<=p.atoms-1)))),(29,ROrc.kop (int i64 (v (Int.toNat (List.getD s.atoms.l i 0))))),(32,ROrc.pcall (tup 0 (nth [])))]),(7,[(2,ROrc.pcall (int u64 (↑(2^Int.toNat (List.getD s.atoms.l i 0)):Int))),(4,ROrc.val (Orc.obj (nth [int u64 (IntKind.wrap u64 (↑(BitVec.toNat (BitVec.ofInt 64 (↑(aO (List.take i s.atoms.l)):Int)|||BitVec.ofInt 64 (↑(2^Int.toNat (List.getD s.atoms.l i 0)):Int))):Int))])))])]) (fun Q=>(fun (u1:Int)=>(fun (u2:Int)=>(fun (u3:Bool)=>(fun (u4:List AObj)=>(fun (u5:AV)=>(fun (u6:Int)=>(fun (u7:Int)=>(fun (u8:Bool)=>(fun (u9:Option (List Nat))=>(fun (u10:Option (Nat × Bool))=>(decide (u7<u6)=true->(0<=u7/\u7<u6)/\1<=1/\1<=1/\1<=27/\(-9223372036854775808<=p.atoms-1/\p.atoms-1<=9223372036854775807)/\(∀(hp:List AObj) (g:R.σ),true=true/\Does Tryd.prog R 58 [int i64 u1,int i64 0,int i64 (p.atoms-1)] hp g (ret (AV.bool u8)) hp g)/\((u8 && !u7==0)=true->2<=2)/\((u8 && !u7==0)=true -> -9223372036854775808<=u7-1/\u7-1<=9223372036854775807)/\((u8 && !u7==0)=true->0<=u7-1/\u7-1<u6)/\((u8 && !u7==0)=true->1<=1)/\(u3=true->1<=1)/\(u3=true->0<=u1/\u1<(↑24:Int))/\(u3=true->OpOk Tryd.prog R (Oper.mk (some 53) (Op.load 43 (Operand.tmp 52)) 43 "table.go:155" #[Edge.mk 28 Ground.data,Edge.mk 23 Ground.guard] (some (23,true))) (evO [Row.mk (some 52) (some (23,true)) (ref 0 (Int.toNat u1+2)) false u9 [],Row.mk (some 51) (some (23,true)) (ref 0 2) false u9 [],Row.mk (some 50) (some (23,true)) (ref 0 0) false u9 [],Row.mk (some 49) (some (23,true)) (int i64 u1) false u9 [],Row.mk (some 48) (some (23,true)) (ref 0 0) false u9 [3],Row.mk (some 47) none (AV.bool u3) false u9 [],Row.mk (some 46) none (AV.bool u3) false u9 [],Row.mk (some 45) (some (8,true)) (AV.bool (bif u7==0 then true else decide (u1 > u2))) false u9 [],Row.mk (some 44) u10 (AV.bool (decide (u1 > u2))) false u9 [],Row.mk (some 43) u10 (int i64 u2) false u9 [],Row.mk (some 42) u10 (fp 1 fun x=>int i64 u2) false u9 [],Row.mk (some 41) u10 (int i64 (u7-1)) false u9 [],Row.mk (some 40) u10 (int i64 u7) false u9 [],Row.mk (some 39) u10 (ah s.atoms) false u9 [2],Row.mk (some 38) u10 (ref 2 1) false u9 [],Row.mk (some 37) u10 (ref 2 0) false u9 [],Row.mk (some 36) u10 (int i64 u1) false u9 [],Row.mk (some 35) (some (8,true)) (AV.bool (u7==0)) false u9 [],Row.mk (some 34) (some (8,true)) (AV.bool (u7==0)) false u9 [],Row.mk (some 33) (some (8,true)) (int i64 u7) false u9 [],Row.mk (some 32) none (AV.bool u8) false u9 [],Row.mk (some 31) none (AV.bool u8) false u9 [],Row.mk (some 30) none (int i64 (p.atoms-1)) false u9 [],Row.mk (some 29) none (int i64 p.atoms) false u9 [0],Row.mk (some 28) none (ref 0 0) false u9 [],Row.mk (some 27) none (ref 0 0) false u9 [],Row.mk (some 26) none (ref 0 0) false u9 [],Row.mk (some 25) none (ref 0 0) false u9 [3],Row.mk (some 24) none (int i64 u1) false u9 []] [(2,ref 2 0),(3,ref 3 0),(4,ref 4 0),(5,int i64 u7),(6,int i64 u1),(17,ah s.atoms),(18,int i64 u6),(19,int i64 u7)] [(23,true)]) u4 g (int i64 (v (Int.toNat u1))) u4 g)/\(∀(hp:List AObj) (g:R.σ),true=true/\Does Tryd.prog R 140 [AV.bool (bif u3 then v (Int.toNat u1)==3 else false)] hp g (ret (tup 0 (nth []))) hp g)/\Flw Tryd.prog/\1<=1/\(∀(hp:List AObj) (g:R.σ),true=true/\Does Tryd.prog R 79 [int i64 u1] hp g (ret (int u64 (↑(2^Int.toNat u1):Int))) hp g)/\1<=1/\(∀(c:Nat),c<1->nth [u5] c=aj (fun (x:Nat)=>int u64 (↑(aO (List.take i s.atoms.l)):Int)) 0 1 (fun (x:Nat)=>u5) c)/\(-9223372036854775808<=u7+1/\u7+1<=9223372036854775807)/\Q AEx.normal (St.mk [(2,ref 2 0),(3,ref 3 0),(4,ref 4 0),(17,ah s.atoms),(18,int i64 u6),(19,int i64 (u7+1))] [cells false 27 (ae p v (AV.mp 1)),AObj.map es,cells false 2 (nth [int i64 s.rule,ah s.atoms]),cells false 1 fun x=>ref 0 0,cells false 1 (nth [u5])] g))/\(decide (u7<u6)=false->Q (AEx.exit 0) (St.mk [(2,ref 2 0),(3,ref 3 0),(4,ref 4 0),(17,ah s.atoms),(18,int i64 u6),(19,int i64 u7),(20,AV.bool (decide (u7<u6)))] u4 g))) (some (11,false))) (some [])) (decide (0<=u1/\u1<=p.atoms-1))) ((↑i:Int))) ((↑(List.length s.atoms.l):Int))) (int u64 (IntKind.wrap u64 (↑(BitVec.toNat (BitVec.ofInt 64 (↑(aO (List.take i s.atoms.l)):Int)|||BitVec.ofInt 64 (↑(2^Int.toNat u1):Int))):Int)))) ([cells false 27 (ae p v (AV.mp 1)),AObj.map es,cells false 2 (nth [int i64 s.rule,ah s.atoms]),cells false 1 fun x=>ref 0 0,cells false 1 fun x=>int u64 (↑(aO (List.take i s.atoms.l)):Int)])) (bif decide (0<=u1/\u1<=p.atoms-1) then bif (↑i:Int)==0 then true else decide (u1 > u2) else false)) (List.getD s.atoms.l (Int.toNat ((↑i:Int)-1)) 0)) (List.getD s.atoms.l i 0)) ⟨fun c1=>have c1:(↑i:Int)<(↑(List.length s.atoms.l):Int):=(of_decide_eq_true c1);⟨omg,omg,omg,omg,omg,(fun _ _=>⟨rfl,(dv _ _ _ _ _ _)⟩),omg,omg,(by intro h;simp at h <;> omega),omg,omg,omg,?_,(fun _ _=>⟨rfl,(dI _ _ (by assumption) _ _)⟩),krf,omg,(fun _ _=>⟨rfl,(dV _ _ omg _ _)⟩),omg,(fun c hc=>match c,hc with|0,_=>krf ),omg,?_⟩,fun c1=>have c1:¬(↑i:Int)<(↑(List.length s.atoms.l):Int):=(of_decide_eq_false c1);?_⟩
   ·intro _
    exact dS rfl rfl krf rfl (by show _+1<=27;omega) (dU omg omg)
   ·refine(aQ (i+1) (toL (h1:=⟨zT _,zT _,zT _,zT _,zT _,(zU krf),trivial⟩) (h2:=⟨zV,rfl,zV,zV,⟨rfl,Nat.le_refl _,fun j hj=>match j,hj with|0,_=>(zU ?_) ⟩,trivial⟩)) ?_ ?_)
    ·show AV.int .u64 _=AV.int .u64 _
     congr 1
     rw[hx]
     exact Tb.u64_or (bz h2) (bz (Nat.pow_lt_pow_right dcd omg))
    ·refine⟨omg,?_⟩
     rw[hx]
     exact Nat.or_lt_two_pow h2 (Nat.pow_lt_pow_right dcd omg)
    ·omega
   all_goals (exfalso;omega)
  ·have hi':i=s.atoms.l.length:=by omega
   subst hi'
   rw[List.take_length] at h2 ⊢
   obtain⟨S,hS⟩:∃S,aO s.atoms.l=S:=⟨_,rfl⟩
   rw[hS] at h2 hn ⊢
   have hb:decide ((s.atoms.l.length:Int)<(s.atoms.l.length:Int))=false:=decide_eq_false omg
   refine vcR [[1,1,1,0,1,0,0,1,0,0]] (lkL [(4,[2,3,4,17,18,19,20])]) (fun _=>[]) (fun Q=>(fun (u1:Int)=>(fun (u2:St R.σ)=>(decide (u1<u1)=true->WpC Tryd.prog R 79 2 139 [1,1,1,0,1,0,0,1,0,0] Q [Kont.seq [1,1,1,0,1,0,0,1,1]] u2)/\(decide (u1<u1)=false->Q (AEx.exit 0) u2)) (St.mk [(2,ref 2 0),(3,ref 3 0),(4,ref 4 0),(17,ah s.atoms),(18,int i64 u1),(19,int i64 u1),(20,AV.bool (decide (u1<u1)))] [cells false 27 (ae p v (AV.mp 1)),AObj.map es,cells false 2 (nth [int i64 s.rule,ah s.atoms]),cells false 1 fun x=>ref 0 0,cells false 1 fun x=>int u64 (↑S:Int)] g)) ((↑(List.length s.atoms.l):Int))) ⟨fun hcc=>(nomatch (hb.symm.trans hcc)),fun _=>?_⟩
   refine⟨⟨[(2,.ref 2 0),(3,.ref 3 0),(4,.ref 4 0)],[.cells false 27 (ae p v (.mp 1)),.map es,.cells false 2 (nth [.int .i64 s.rule,ah s.atoms]),.cells false 1 (fun _=>.ref 0 0),.cells false 1 (fun _=>.int .u64 S)],g⟩,aT (by exact⟨zT _,zT _,zT _,trivial⟩) rfl rfl,?_⟩
   show WpB _ _ _ _ _ _ _ _ _
   refine vV krf ?_
   refine jA krf ?_
   refine vcR [] (lkL [(9,[3,4,63])]) (lkL [(9,[(1,ROrc.call (fn 105 0 (nth []) 1 (nth [ref (List.length [cells false 27 (ae p v (AV.mp 1)),AObj.map es,cells false 2 (nth [int i64 s.rule,ah s.atoms]),cells false 1 fun (x:Nat)=>ref 0 0,cells false 1 fun (x:Nat)=>int u64 (↑S:Int)]) 0])) ([cells false 27 (ae p v (AV.mp 1)),AObj.map es,cells false 2 (nth [int i64 s.rule,ah s.atoms]),cells false 1 fun (x:Nat)=>ref 0 0,cells false 1 fun (x:Nat)=>int u64 (↑S:Int)]++[cells false 1 fun (x:Nat)=>int u64 (↑S:Int)]) g)])]) (fun Q=>(fun (u1:List AObj)=>1<=1/\(true=true/\Does Tryd.prog R 77 [int u64 (↑S:Int)] [cells false 27 (ae p v (AV.mp 1)),AObj.map es,cells false 2 (nth [int i64 s.rule,ah s.atoms]),cells false 1 fun x=>ref 0 0,cells false 1 fun x=>int u64 (↑S:Int)] g (ret (fn 105 0 (nth []) 1 (nth [ref 5 0]))) u1 g)/\Q AEx.normal (St.mk [(3,ref 3 0),(4,ref 4 0),(63,fn 105 0 (nth []) 1 (nth [ref 5 0]))] u1 g)) ([cells false 27 (ae p v (AV.mp 1)),AObj.map es,cells false 2 (nth [int i64 s.rule,ah s.atoms]),cells false 1 fun x=>ref 0 0,cells false 1 fun x=>int u64 (↑S:Int),cells false 1 fun x=>int u64 (↑S:Int)])) ⟨omg,⟨rfl,(cK _ _ _ _)⟩,?_⟩
   show WpB _ _ _ _ _ _ _ _ _
   obtain⟨K,hK,hKs,hlo⟩:∃K,K<(ai S).length/\(ofH p.rules.l (((ai S).getD K 0:Nat):Int)).any (aZ v S)=true/\∀j,j<K->(ofH p.rules.l (((ai S).getD j 0:Nat):Int)).any (aZ v S)=false:=by
    have h:=iA (fun (a:Nat)=>(ofH p.rules.l a).any (aZ v S)) 0 (ai S) 0 (by
     by_cases h:0<=aN (fun (a:Nat)=>(ofH p.rules.l a).any (aZ v S)) (ai S) 0
     ·exact h
     ·have hm:=(nN _ _ _ h).2
      unfold dw at hn
      rw[Bool.not_eq_false',List.any_eq_true] at hn
      obtain⟨x,hx,hx2⟩:=hn
      rw[hm x hx] at hx2
      cases hx2)
    obtain⟨K,h1,_,h3,h4⟩:=h
    exact⟨K,h1,h3,h4⟩
   have hin:∀k,k<(ai S).length->(ai S).getD k 0<24:=fun k hk=>jN (bQ (ai S) 0 hk)
   obtain⟨l,hle⟩:∃l,(fun k=>(ai S).getD k 0)=l:=⟨_,rfl⟩
   refine vU krf ?_
   refine zo 63 [64] 5 krf rfl rfl S K h2 [.cells false 27 (ae p v (.mp 1)),.map es,.cells false 2 (nth [.int .i64 s.rule,ah s.atoms]),.cells false 1 (fun _=>.ref 0 0),.cells false 1 (fun _=>.int .u64 S)] (fC rfl rfl) rfl (by exact⟨omg,omg,omg,omg,omg,trivial⟩) (by exact⟨fun j _=>aR _ _ 3 _,trivial,fun j hj=>(match j with|0=>trivial|1=>trivial|_+2=>trivial),fun _ _=>show 0<5 by omega,fun _ _=>trivial,trivial⟩) rfl krf [3,4] (by exact⟨show 3<5 by omega,show 4<5 by omega,trivial⟩) (fun k l' hk hkN=>?_) hK (fun l'=>?_)
   ·refine vcR [] (lkL [(10,[3,4,7])]) (fun _=>[]) (fun (Q:AEx->St R.σ->Prop)=>Q AEx.normal (St.mk [(3,ref 3 0),(4,ref 4 0),(7,int i64 (↑(List.getD (ai S) k 0):Int))] [cells false 27 (ae p v (AV.mp 1)),AObj.map es,cells false 2 (nth [int i64 s.rule,ah s.atoms]),cells false 1 fun (x:Nat)=>ref 0 0,cells false 1 fun (x:Nat)=>int u64 (↑S:Int)] g)) (?_)
    show Wp _ _ _ 5 _ _ _ _ _
    obtain⟨a,ha⟩:∃a,(ai S).getD k 0=a:=⟨_,rfl⟩
    have ha24:a<24:=by rw[<-ha];exact hin k hkN
    have hm:(!(ofH p.rules.l a).any (aZ v S))=true:=by rw[<-ha,hlo k hk];rfl
    rw[ha]
    refine vcR [] (lkL [(11,[3,4])]) (lkL [(11,[(3,ROrc.kcall (AV.bool (List.any (ofH p.rules.l (↑a:Int)) (aZ v S)))),(5,ROrc.pcall (tup 0 (nth [])))])]) (fun Q=>(fun (u1:List AObj)=>1<=1/\1<=1/\(true=true/\Does Tryd.prog R 115 [ref 0 0,int i64 (↑a:Int),int u64 (↑S:Int)] u1 g (ret (AV.bool (List.any (ofH p.rules.l (↑a:Int)) (aZ v S)))) u1 g)/\(∀(hp:List AObj) (g:R.σ),true=true/\Does Tryd.prog R 140 [AV.bool !List.any (ofH p.rules.l (↑a:Int)) (aZ v S)] hp g (ret (tup 0 (nth []))) hp g)/\Q AEx.normal (St.mk [(3,ref 3 0),(4,ref 4 0)] u1 g)) ([cells false 27 (ae p v (AV.mp 1)),AObj.map es,cells false 2 (nth [int i64 s.rule,ah s.atoms]),cells false 1 fun x=>ref 0 0,cells false 1 fun x=>int u64 (↑S:Int)])) ⟨omg,omg,⟨rfl,(doT (T:=LT) [0,1] 5 (fun R _ g=>jI R (p) (v) (es) (S) (a) omg omg omg omg omg g))⟩,(fun _ _=>⟨rfl,(dI _ _ omg _ _)⟩),?_⟩
    refine(eE rfl (aT trivial rfl rfl))
   ·refine vcR [] (lkL [(10,[3,4,7])]) (fun _=>[]) (fun (Q:AEx->St R.σ->Prop)=>Q AEx.normal (St.mk [(3,ref 3 0),(4,ref 4 0),(7,int i64 (↑(List.getD (ai S) K 0):Int))] [cells false 27 (ae p v (AV.mp 1)),AObj.map es,cells false 2 (nth [int i64 s.rule,ah s.atoms]),cells false 1 fun (x:Nat)=>ref 0 0,cells false 1 fun (x:Nat)=>int u64 (↑S:Int),dead] g)) (?_)
    show Wp _ _ _ 6 _ _ _ _ _
    obtain⟨a,ha⟩:∃a,(ai S).getD K 0=a:=⟨_,rfl⟩
    have ha24:a<24:=by rw[<-ha];exact hin K hK
    have hm:(!(ofH p.rules.l a).any (aZ v S))=false:=by rw[<-ha,hKs];rfl
    rw[ha]
    refine vcR [] (lkL [(11,[3,4])]) (lkL [(11,[(3,ROrc.kcall (AV.bool (List.any (ofH p.rules.l (↑a:Int)) (aZ v S)))),(5,ROrc.cpan (ifc 145 (agg 0 (nth []))) [cells false 27 (ae p v (AV.mp 1)),AObj.map es,cells false 2 (nth [int i64 s.rule,ah s.atoms]),cells false 1 fun (x:Nat)=>ref 0 0,cells false 1 fun (x:Nat)=>int u64 (↑S:Int),dead] g)])]) (fun Q=>(fun (u1:List AObj)=>1<=1/\1<=1/\(true=true/\Does Tryd.prog R 115 [ref 0 0,int i64 (↑a:Int),int u64 (↑S:Int)] u1 g (ret (AV.bool (List.any (ofH p.rules.l (↑a:Int)) (aZ v S)))) u1 g)/\(true=true/\Does Tryd.prog R 140 [AV.bool !List.any (ofH p.rules.l (↑a:Int)) (aZ v S)] u1 g (Oc.pan (ifc 145 (agg 0 (nth [])))) u1 g)/\Q (AEx.pan (ifc 145 (agg 0 (nth [])))) (St.mk [(3,ref 3 0),(4,ref 4 0)] u1 g)) ([cells false 27 (ae p v (AV.mp 1)),AObj.map es,cells false 2 (nth [int i64 s.rule,ah s.atoms]),cells false 1 fun x=>ref 0 0,cells false 1 fun x=>int u64 (↑S:Int),dead])) ⟨omg,omg,⟨rfl,(doT (T:=LT) [0,1] 6 (fun R _ g=>jI R (p) (v) (es) (S) (a) omg omg omg omg omg g))⟩,⟨rfl,(iz _ _ omg _ _)⟩,?_⟩
    refine⟨krf,?_⟩
    exact ed (s':=⟨[(0,.ifc 145 (.agg 0 (nth [])))],[.cells false 27 (ae p v (.mp 1)),.map es],g⟩) [0,1] 6 rfl rfl rfl rfl rfl ⟨zT _,trivial⟩ ⟨z4 (fun j hj=>(bU (f:=ar [0,1] 6) rfl).symm),rfl,trivial⟩
theorem zq (R:Res)[Tab LT R](p:Prg)(v:Nat->Int)(es:List (Value × AV))(s:Step)(hl:p.rules.l.length<1000000)(hr:∀r,r∈p.rules.l->aK r)(hes:HeadsOk es p.rules.l)(hp:1<=p.atoms/\p.atoms<=24)(hsl:s.atoms.l.length<1000000)(g:R.σ):Does Tryd.prog R 139 [aY s,.ref 0 0] [.cells false 27 (ae p v (.mp 1)),.map es] g (q0 (cU p v s)) [.cells false 27 (ae p (match cU p v s with|true=>cV v (aO s.atoms.l)|false=>v) (.mp 1)),.map es] g:=by
 by_cases h:cF p v s.atoms.l=true/\dw p v (aO s.atoms.l)=false
 ·have hu:cU p v s=false:=by unfold cU;rw[h.1,h.2];rfl
  rw[hu]
  exact zp R p v es s hl hr hes hp hsl h.1 h.2 g
 ·exact wN R p v es s hl hr hes hp hsl (fun hc=>by
   cases hn:dw p v (aO s.atoms.l) with
   |true=>rfl
   |false=>exact absurd ⟨hc,hn⟩ h) g
def okS (p:Prg)(v:Nat->Int)(s:Step):Bool:=if s.rule = -1 then cU p v s else cx p v s
def newS (p:Prg)(v:Nat->Int)(s:Step):Nat->Int:=if s.rule = -1 then cV v (aO s.atoms.l) else fc p v s
theorem lU {R:Res}{f:FuncId}{p:Prg}{v v':Nat->Int}{es:List (Value × AV)}{s:Step}{x:Oc}(hx:∀F,il F x=x)(h:∀(R:Res) [Tab LT R] (g:R.σ),Does Tryd.prog R f [aY s,.ref 0 0] [.cells false 27 (ae p v (.mp 1)),.map es] g x [.cells false 27 (ae p v' (.mp 1)),.map es] g)[Tab LT R](n:Nat)(c:Nat->AV)(g:R.σ) :
  Does Tryd.prog R f [aY s,.ref 0 0] [.cells false 27 (ae p v (.mp 1)),.map es,.cells false n c] g x [.cells false 27 (ae p v' (.mp 1)),.map es,.cells false n c] g:=
 ef (T:=LT) inferInstance [0,1] 3 (fun R _ g=>h R g) rfl rfl rfl ⟨z4 (fun j hj=>(bU (f:=ar [0,1] 3) rfl).symm),rfl,trivial⟩ (by exact⟨dcd,trivial⟩) ⟨bk (by exact⟨⟨trivial,trivial⟩,trivial⟩),zT _,trivial⟩ (by rw[hx];cases x <;> exact zT _) ⟨z4 (fun j hj=>bU rfl),rfl,zW _,trivial⟩
theorem zr (R:Res)[Tab LT R](p:Prg)(v v':Nat->Int)(es:List (Value × AV))(s:Step)(h:∀(R:Res) [Tab LT R] (g:R.σ),Does Tryd.prog R 141 [aY s,.ref 0 0] [.cells false 27 (ae p v (.mp 1)),.map es] g (.ret (.tup 0 (nth []))) [.cells false 27 (ae p v' (.mp 1)),.map es] g)(g:R.σ):Does Tryd.prog R 67 [.ref 0 0,.ifc 149 (aY s)] [.cells false 27 (ae p v (.mp 1)),.map es] g (.ret (.bool true)) [.cells false 27 (ae p v' (.mp 1)),.map es] g:=by
 refine jq (K:=100) (nt:=bv Tryd.prog 67) (rs:=cv Tryd.prog 67) (k0:=2) 5 [4] krf krf krf rfl krf krf dcd dcd ?_
 refine vcR [] (lkL [(0,[0,1,4])]) (fun _=>[]) (fun (Q:AEx->St R.σ->Prop)=>Q AEx.normal (St.mk [(0,ref 0 0),(1,ifc 149 (aY s)),(4,ref 2 0)] [cells false 27 (ae p v (AV.mp 1)),AObj.map es,cells false 1 fun (a:Nat)=>AV.bool false] g)) (?_)
 refine jr 3 [.ref 2 0] rfl rfl rfl ?_
 have hD:=fun (R:Res) [Tab LT R] (n:Nat) (c:Nat->AV) (g:R.σ)=>lU (R:=R) (fun _=>rfl) h n c g
 refine vcR [] (lkL [(2,[4]),(3,[4])]) (lkL [(2,[(2,ROrc.inv (tup 0 (nth [])) [cells false 27 (ae p v' (AV.mp 1)),AObj.map es,cells false 1 fun (a:Nat)=>AV.bool false] g)]),(3,[(0,ROrc.val (Orc.obj (nth [AV.bool true])))])]) (fun Q=>(fun (u1:List AObj)=>(true=true/\true=true/\Does Tryd.prog R 141 [aY s,ref 0 0] (cells false 27 (ae p v (AV.mp 1))::u1) g (ret (tup 0 (nth []))) (cells false 27 (ae p v' (AV.mp 1))::u1) g)/\1<=1/\(∀(c:Nat),c<1->nth [AV.bool true] c=aj (fun (a:Nat)=>AV.bool false) 0 1 (fun (x:Nat)=>AV.bool true) c)/\Q AEx.ret (St.mk [(4,ref 2 0)] [cells false 27 (ae p v' (AV.mp 1)),AObj.map es,cells false 1 (nth [AV.bool true])] g)) ([AObj.map es,cells false 1 fun a=>AV.bool false])) ⟨⟨krf,rfl,(hD _ _ _ _)⟩,omg,(fun c hc=>match c,hc with|0,_=>krf ),?_⟩
 refine⟨_,_,rY R p v' es _ g,?_⟩
 refine(aq (bg 2 (AV.bool true) ([0+(TyI.mk (TypeInfo.mk TypeDesc.bool "bool" 1 1 false 1 1 (some (Value.bool false)) true #[]).desc Tryd.prog.types[4].size Tryd.prog.types[4].bytes (b8 (cY (Value.bool false))) (cA (TypeInfo.mk TypeDesc.bool "bool" 1 1 false 1 1 (some (Value.bool false)) true #[]).desc) (dB Tryd.prog 4)).size<=1]) krf (by exact⟨dcd,trivial⟩) omg trivial ⟨(fun _ _=>(by first|exact trivial|apply aR)),trivial⟩ krf rfl rfl) (zT _))
theorem zt (R:Res)[Tab LT R](p:Prg)(v:Nat->Int)(es:List (Value × AV))(s:Step)(h:∀(R:Res) [Tab LT R] (g:R.σ),Does Tryd.prog R 141 [aY s,.ref 0 0] [.cells false 27 (ae p v (.mp 1)),.map es] g (.pan (.ifc 145 (.agg 0 (nth [])))) [.cells false 27 (ae p v (.mp 1)),.map es] g)(g:R.σ):Does Tryd.prog R 67 [.ref 0 0,.ifc 149 (aY s)] [.cells false 27 (ae p v (.mp 1)),.map es] g (.ret (.bool false)) [.cells false 27 (ae p v (.mp 1)),.map es] g:=by
 refine jq (K:=100) (nt:=bv Tryd.prog 67) (rs:=cv Tryd.prog 67) (k0:=2) 5 [4] krf krf krf rfl krf krf dcd dcd ?_
 refine vcR [] (lkL [(0,[0,1,4])]) (fun _=>[]) (fun (Q:AEx->St R.σ->Prop)=>Q AEx.normal (St.mk [(0,ref 0 0),(1,ifc 149 (aY s)),(4,ref 2 0)] [cells false 27 (ae p v (AV.mp 1)),AObj.map es,cells false 1 fun (a:Nat)=>AV.bool false] g)) (?_)
 refine jr 3 [.ref 2 0] rfl rfl rfl ?_
 have hD:=fun (R:Res) [Tab LT R] (n:Nat) (c:Nat->AV) (g:R.σ)=>lU (R:=R) (fun _=>rfl) h n c g
 refine vcR [] (lkL [(2,[4])]) (lkL [(2,[(2,ROrc.ipan (ifc 145 (agg 0 (nth []))) [cells false 27 (ae p v (AV.mp 1)),AObj.map es,cells false 1 fun (a:Nat)=>AV.bool false] g)])]) (fun Q=>(fun (u1:List AObj)=>(true=true/\true=true/\Does Tryd.prog R 141 [aY s,ref 0 0] u1 g (Oc.pan (ifc 145 (agg 0 (nth [])))) u1 g)/\Q (AEx.pan (ifc 145 (agg 0 (nth [])))) (St.mk [(4,ref 2 0)] u1 g)) ([cells false 27 (ae p v (AV.mp 1)),AObj.map es,cells false 1 fun a=>AV.bool false])) ⟨⟨krf,rfl,(hD _ _ _ _)⟩,?_⟩
 refine⟨_,_,oh R p v es _ g,?_⟩
 refine(aq (bg 2 (AV.bool false) ([0+(TyI.mk (TypeInfo.mk TypeDesc.bool "bool" 1 1 false 1 1 (some (Value.bool false)) true #[]).desc Tryd.prog.types[4].size Tryd.prog.types[4].bytes (b8 (cY (Value.bool false))) (cA (TypeInfo.mk TypeDesc.bool "bool" 1 1 false 1 1 (some (Value.bool false)) true #[]).desc) (dB Tryd.prog 4)).size<=1]) krf (by exact⟨dcd,trivial⟩) omg trivial ⟨(fun _ _=>(by first|exact trivial|apply aR)),trivial⟩ krf rfl rfl) (zT _))
theorem zu (R:Res)[Tab LT R](p:Prg)(v v':Nat->Int)(es:List (Value × AV))(s:Step)(h:∀(R:Res) [Tab LT R] (g:R.σ),Does Tryd.prog R 139 [aY s,.ref 0 0] [.cells false 27 (ae p v (.mp 1)),.map es] g (.ret (.tup 0 (nth []))) [.cells false 27 (ae p v' (.mp 1)),.map es] g)(g:R.σ):Does Tryd.prog R 67 [.ref 0 0,.ifc 148 (aY s)] [.cells false 27 (ae p v (.mp 1)),.map es] g (.ret (.bool true)) [.cells false 27 (ae p v' (.mp 1)),.map es] g:=by
 refine jq (K:=100) (nt:=bv Tryd.prog 67) (rs:=cv Tryd.prog 67) (k0:=2) 5 [4] krf krf krf rfl krf krf dcd dcd ?_
 refine vcR [] (lkL [(0,[0,1,4])]) (fun _=>[]) (fun (Q:AEx->St R.σ->Prop)=>Q AEx.normal (St.mk [(0,ref 0 0),(1,ifc 148 (aY s)),(4,ref 2 0)] [cells false 27 (ae p v (AV.mp 1)),AObj.map es,cells false 1 fun (a:Nat)=>AV.bool false] g)) (?_)
 refine jr 3 [.ref 2 0] rfl rfl rfl ?_
 have hD:=fun (R:Res) [Tab LT R] (n:Nat) (c:Nat->AV) (g:R.σ)=>lU (R:=R) (fun _=>rfl) h n c g
 refine vcR [] (lkL [(2,[4]),(3,[4])]) (lkL [(2,[(2,ROrc.inv (tup 0 (nth [])) [cells false 27 (ae p v' (AV.mp 1)),AObj.map es,cells false 1 fun (a:Nat)=>AV.bool false] g)]),(3,[(0,ROrc.val (Orc.obj (nth [AV.bool true])))])]) (fun Q=>(fun (u1:List AObj)=>(true=true/\true=true/\Does Tryd.prog R 139 [aY s,ref 0 0] (cells false 27 (ae p v (AV.mp 1))::u1) g (ret (tup 0 (nth []))) (cells false 27 (ae p v' (AV.mp 1))::u1) g)/\1<=1/\(∀(c:Nat),c<1->nth [AV.bool true] c=aj (fun (a:Nat)=>AV.bool false) 0 1 (fun (x:Nat)=>AV.bool true) c)/\Q AEx.ret (St.mk [(4,ref 2 0)] [cells false 27 (ae p v' (AV.mp 1)),AObj.map es,cells false 1 (nth [AV.bool true])] g)) ([AObj.map es,cells false 1 fun a=>AV.bool false])) ⟨⟨krf,rfl,(hD _ _ _ _)⟩,omg,(fun c hc=>match c,hc with|0,_=>krf ),?_⟩
 refine⟨_,_,rY R p v' es _ g,?_⟩
 refine(aq (bg 2 (AV.bool true) ([0+(TyI.mk (TypeInfo.mk TypeDesc.bool "bool" 1 1 false 1 1 (some (Value.bool false)) true #[]).desc Tryd.prog.types[4].size Tryd.prog.types[4].bytes (b8 (cY (Value.bool false))) (cA (TypeInfo.mk TypeDesc.bool "bool" 1 1 false 1 1 (some (Value.bool false)) true #[]).desc) (dB Tryd.prog 4)).size<=1]) krf (by exact⟨dcd,trivial⟩) omg trivial ⟨(fun _ _=>(by first|exact trivial|apply aR)),trivial⟩ krf rfl rfl) (zT _))
theorem zv (R:Res)[Tab LT R](p:Prg)(v:Nat->Int)(es:List (Value × AV))(s:Step)(h:∀(R:Res) [Tab LT R] (g:R.σ),Does Tryd.prog R 139 [aY s,.ref 0 0] [.cells false 27 (ae p v (.mp 1)),.map es] g (.pan (.ifc 145 (.agg 0 (nth [])))) [.cells false 27 (ae p v (.mp 1)),.map es] g)(g:R.σ):Does Tryd.prog R 67 [.ref 0 0,.ifc 148 (aY s)] [.cells false 27 (ae p v (.mp 1)),.map es] g (.ret (.bool false)) [.cells false 27 (ae p v (.mp 1)),.map es] g:=by
 refine jq (K:=100) (nt:=bv Tryd.prog 67) (rs:=cv Tryd.prog 67) (k0:=2) 5 [4] krf krf krf rfl krf krf dcd dcd ?_
 refine vcR [] (lkL [(0,[0,1,4])]) (fun _=>[]) (fun (Q:AEx->St R.σ->Prop)=>Q AEx.normal (St.mk [(0,ref 0 0),(1,ifc 148 (aY s)),(4,ref 2 0)] [cells false 27 (ae p v (AV.mp 1)),AObj.map es,cells false 1 fun (a:Nat)=>AV.bool false] g)) (?_)
 refine jr 3 [.ref 2 0] rfl rfl rfl ?_
 have hD:=fun (R:Res) [Tab LT R] (n:Nat) (c:Nat->AV) (g:R.σ)=>lU (R:=R) (fun _=>rfl) h n c g
 refine vcR [] (lkL [(2,[4])]) (lkL [(2,[(2,ROrc.ipan (ifc 145 (agg 0 (nth []))) [cells false 27 (ae p v (AV.mp 1)),AObj.map es,cells false 1 fun (a:Nat)=>AV.bool false] g)])]) (fun Q=>(fun (u1:List AObj)=>(true=true/\true=true/\Does Tryd.prog R 139 [aY s,ref 0 0] u1 g (Oc.pan (ifc 145 (agg 0 (nth [])))) u1 g)/\Q (AEx.pan (ifc 145 (agg 0 (nth [])))) (St.mk [(4,ref 2 0)] u1 g)) ([cells false 27 (ae p v (AV.mp 1)),AObj.map es,cells false 1 fun a=>AV.bool false])) ⟨⟨krf,rfl,(hD _ _ _ _)⟩,?_⟩
 refine⟨_,_,oh R p v es _ g,?_⟩
 refine(aq (bg 2 (AV.bool false) ([0+(TyI.mk (TypeInfo.mk TypeDesc.bool "bool" 1 1 false 1 1 (some (Value.bool false)) true #[]).desc Tryd.prog.types[4].size Tryd.prog.types[4].bytes (b8 (cY (Value.bool false))) (cA (TypeInfo.mk TypeDesc.bool "bool" 1 1 false 1 1 (some (Value.bool false)) true #[]).desc) (dB Tryd.prog 4)).size<=1]) krf (by exact⟨dcd,trivial⟩) omg trivial ⟨(fun _ _=>(by first|exact trivial|apply aR)),trivial⟩ krf rfl rfl) (zT _))
theorem zw (R:Res)[Tab LT R](p:Prg)(v:Nat->Int)(es:List (Value × AV))(s:Step)(hl:p.rules.l.length<1000000)(hr:∀r,r∈p.rules.l->aK r)(hes:HeadsOk es p.rules.l)(hp:1<=p.atoms/\p.atoms<=24)(hsl:s.atoms.l.length<1000000)(g:R.σ):Does Tryd.prog R 67 [.ref 0 0,cT s] [.cells false 27 (ae p v (.mp 1)),.map es] g (.ret (.bool (okS p v s))) [.cells false 27 (ae p (if okS p v s then newS p v s else v) (.mp 1)),.map es] g:=by
 unfold okS newS cT
 by_cases h:s.rule = -1
 ·rw[if_pos h,if_pos h,if_pos h]
  have hU:=fun (R:Res) [Tab LT R] (g:R.σ)=>zq R p v es s hl hr hes hp hsl g
  cases hu:cU p v s with
  |true=>
   simp only[hu] at hU
   exact zu R p v _ es s hU g
  |false=>
   simp only[hu] at hU
   exact zv R p v es s hU g
 ·rw[if_neg h,if_neg h,if_neg h]
  cases hu:cx p v s with
  |true=>exact zr R p v _ es s (fun R _ g=>wM R p v es s hl hr hu g) g
  |false=>exact zt R p v es s (fun R _ g=>q5 R p v es s hl hr hu g) g
end Go.Avm.Pack
namespace Go.Avm.Pack
open Go Go.Avm Go.Proofs
open Go.IntKind (i64 u64)
open Go.Avm.AV (int bool any fz fp sl ow ref fn ifc val agg tup)
open Go.Avm.AObj (cells dead)
open Go.Avm.Oc (ret)
set_option maxRecDepth 4000
def eL (p:Prg):List Step->(Nat->Int)->Nat->Int
 |[],_,_=> -1
 |s::l,v,i=>if okS p v s then eL p l (newS p v s) (i+1) else i
def cX (p:Prg)(v:Nat->Int)(l:List Step):Nat->Int:=l.foldl (newS p) v
theorem zx {p:Prg}{v:Nat->Int}{l:List Step}{i:Nat}(h:i<l.length):cX p v (l.take (i+1))=newS p (cX p v (l.take i)) (l.getD i default):=lC (newS p) v l default h
theorem zy {f:Nat->Nat}{p:Prg}{v:Nat->Int}{j k m:Nat}(h:f k=m):aF f (ae p v (.mp k) j)=ae p v (.mp m) j:=by
 subst h
 unfold ae
 split
 ·rfl
 ·split
  ·rfl
  ·split <;> rfl
theorem sD (R:Res)[Tab LT R](p:Prg)(v:Nat->Int)(es:List (Value × AV))(s:Step)(n0 n3:Nat)(c0 c3:Nat->AV)(hl:p.rules.l.length<1000000)(hr:∀r,r∈p.rules.l->aK r)(hes:HeadsOk es p.rules.l)(hp:1<=p.atoms/\p.atoms<=24)(hsl:s.atoms.l.length<1000000)(g:R.σ):Does Tryd.prog R 67 [.ref 1 0,cT s] [.cells false n0 c0,.cells false 27 (ae p v (.mp 2)),.map es,.cells false n3 c3] g (.ret (.bool (okS p v s))) [.cells false n0 c0,.cells false 27 (ae p (if okS p v s then newS p v s else v) (.mp 2)),.map es,.cells false n3 c3] g:=
 ef (T:=LT) inferInstance [1,2] 4 (fun R _ g=>zw R p v es s hl hr hes hp hsl g) rfl rfl rfl ⟨z4 (fun j hj=>(bU (f:=ar [1,2] 4) rfl).symm),rfl,trivial⟩ (by exact⟨dcd,trivial⟩) ⟨zT _,bk (by unfold cT;split <;> exact⟨⟨trivial,trivial⟩,trivial⟩),trivial⟩ (zT _) ⟨zW _,z4 (fun j hj=>bU rfl),rfl,zW _,trivial⟩
theorem zz (R:Res)[Tab LT R](p:Prg)(l:KL Step)(hb:aJ p=true)(hll:l.l.length<1000000)(hal:∀i,(l.l.getD i default).atoms.l.length<1000000)(g:R.σ):Does Tryd.prog R 23 [av p,au l] [] g (.ret (.tup 2 (nth [.int .i64 (if 0<=eL p l.l (fun _=>3) 0 then eL p l.l (fun _=>3) 0 else 0),.int .i64 (if 0<=eL p l.l (fun _=>3) 0 then 7 else 0)]))) [] g:=by
 obtain⟨hl,hr,hp,hh,hx⟩:=ff hb
 have hs:eh p:=gM hb
 have hp':1<=p.atoms/\p.atoms<=24:=hp
 refine spW (nt:=28) (rs:=[.tmp 4,.tmp 5]) (k0:=0) ?_
 have hc:((if aJ p then(0:Int) else 2) != 0)=false:=by
  rw[hb]
  rfl
 refine vcR [[1,0,1,0]] (lkL [(0,[1,2]),(1,[1,2,11]),(3,[1,6]),(4,[6,14,15,16])]) (lkL [(1,[(1,ROrc.pcall (int i64 (if aJ p=true then 0 else 2)))]),(3,[(1,ROrc.call (ref 1 0) [cells false 2 (nth [int i64 p.atoms,af p.rules]),cells false 27 (ae p (fun (x:Nat)=>3) (AV.mp 2)),AObj.map (esF p.rules.l)] g)])]) (fun Q=>(fun (u1:AObj)=>(fun (u2:Int)=>(fun (u3:List AObj)=>2<=2/\(∀(hp:List AObj) (g:R.σ),true=true/\Does Tryd.prog R 16 [av p] hp g (ret (int i64 u2)) hp g)/\((u2 != 0)=true->WpC Tryd.prog R 28 0 23 [1,0,1,0] Q [Kont.seq [1,1]] (St.mk [(1,au l),(2,ref 0 0),(11,AV.bool (u2 != 0))] [u1] g))/\((u2 != 0)=false->2<=2/\(true=true/\Does Tryd.prog R 66 [av p] [u1] g (ret (ref 1 0)) u3 g)/\WpC Tryd.prog R 28 0 23 [1,1,1,0,1,0] Q [Kont.blk 0,Kont.seq [1,1,1,1]] (St.mk [(6,ref 1 0),(14,au l),(15,int i64 (↑(List.length l.l):Int)),(16,int i64 0)] u3 g))) ([u1,cells false 27 (ae p (fun (x:Nat)=>3) (AV.mp 2)),AObj.map (esF p.rules.l)])) (if aJ p=true then 0 else 2)) (cells false 2 (nth [int i64 p.atoms,af p.rules]))) ⟨omg,(fun _ _=>⟨rfl,(fZ _ _ _ _ omg)⟩),fun hcc=>(nomatch (hc.symm.trans hcc)),fun _=>⟨omg,⟨rfl,(lA _ _ _ omg omg _)⟩,?_⟩⟩
 refine(aX krf (fun (i:Nat)=>⟨[(6,ref 1 0),(14,au l),(15,int i64 (l.l.length:Int)),(16,.int .i64 i)],[.cells false 2 (nth [.int .i64 p.atoms,af p.rules]),.cells false 27 (ae p (cX p (fun _=>3) (l.l.take i)) (.mp 2)),.map (esF p.rules.l)],g⟩) (fun (i:Nat)=>(i<=l.l.length/\eL p l.l (fun _=>3) 0=eL p (l.l.drop i) (cX p (fun _=>3) (l.l.take i)) i)) (fun (i:Nat)=>(l.l.length-i)) 0 (toL (h1:=⟨zT _,zT _,zT _,(zU krf),trivial⟩)) ?_ (fun i hi=>?_))
 ·exact⟨Nat.zero_le _,rfl⟩
 ·obtain⟨h1,h2⟩:=hi
  rcases Nat.lt_or_ge i l.l.length with hlt|hge
  ·rw[gD l.l default hlt] at h2
   have hrt:=zx (p:=p) (v:=fun _=>3) hlt
   obtain⟨v,hv⟩:∃v,cX p (fun _=>3) (l.l.take i)=v:=⟨_,rfl⟩
   rw[hv] at hrt h2 ⊢
   have h2:eL p l.l (fun _=>3) 0=if okS p v (l.l.getD i default) then eL p (l.l.drop (i+1)) (newS p v (l.l.getD i default)) (i+1) else i:=h2
   have hD:=fun (R:Res) [Tab LT R] (n0 n3:Nat) (c0 c3:Nat->AV) (g:R.σ)=>sD R p v (esF p.rules.l) (l.l.getD i default) n0 n3 c0 c3 hl hr (nA hr) hp (hal i) g
   cases hk:okS p v (l.l.getD i default) with
   |true=>
    simp only[hk,if_true] at hD
    rw[if_pos hk] at h2
    refine vcR [[1,1,1,0,1,0,0,1,1,0,0,1,1,0]] (lkL [(5,[6,14,15,16,17]),(6,[6,7,8,14,15,16]),(7,[6,7,14,15,16,25]),(9,[6,14,15,16])]) (lkL [(6,[(5,ROrc.val (Orc.obj (nth [int i64 (List.getD l.l i default).rule,fz (List.getD l.l i default).atoms.2 1 (List.length (List.getD l.l i default).atoms.l) fun (i_1 x:Nat)=>ac (List.getD l.l i default).atoms.l i_1])))]),(7,[(2,ROrc.pcall (cT (List.getD l.l i default))),(3,ROrc.call (AV.bool true) [cells false 2 (nth [int i64 p.atoms,af p.rules]),cells false 27 (ae p (newS p v (List.getD l.l i default)) (AV.mp 2)),AObj.map (esF p.rules.l),cells false 2 (nth [int i64 (List.getD l.l i default).rule,fz (List.getD l.l i default).atoms.2 1 (List.length (List.getD l.l i default).atoms.l) fun (i_1 x:Nat)=>ac (List.getD l.l i default).atoms.l i_1])] g)])]) (fun Q=>(fun (u1:List AV)=>(fun (u2:List AObj)=>(fun (u3:Int)=>(fun (u4:Int)=>(fun (u5:AObj)=>(decide (u4<u3)=true->(0<=u4/\u4<u3)/\2<=2/\2<=2/\(∀(c:Nat),c<2->nth u1 c=aj (nth [int i64 0,fz Fz.nil 0 0 fun x x_1=>any]) 0 2 (List.brecOn (motive:=fun (x:List AV)=>Nat->AV) u1 nth._f) c)/\2<=2/\(∀(hp:List AObj) (g:R.σ),true=true/\Does Tryd.prog R 68 [agg 2 (nth u1)] hp g (ret (cT (List.getD l.l i default))) hp g)/\(true=true/\Does Tryd.prog R 67 [ref 1 0,evO [Row.mk (some 23) none (cT (List.getD l.l i default)) false (some []) [],Row.mk (some 22) none (agg 2 (nth u1)) false (some []) [3],Row.mk (some 21) none (ref 1 0) false (some []) []] [(6,ref 1 0),(7,int i64 u4),(8,ref 3 0),(14,au l),(15,int i64 u3),(16,int i64 u4)] [] (Operand.tmp 23)] [u5,cells false 27 (ae p v (AV.mp 2)),AObj.map (esF p.rules.l),cells false 2 (nth u1)] g (ret (AV.bool true)) u2 g)/\(false=true->WpC Tryd.prog R 28 0 23 [1,1,1,0,1,0,0,1,1,0,0,1,1,0] Q [Kont.blk 1,Kont.seq [1,1,1,0,1,0,0,1,1,1]] (St.mk [(6,ref 1 0),(7,int i64 u4),(14,au l),(15,int i64 u3),(16,int i64 u4),(25,AV.bool false)] u2 g))/\(false=false->(-9223372036854775808<=u4+1/\u4+1<=9223372036854775807)/\Q AEx.normal (St.mk [(6,ref 1 0),(14,au l),(15,int i64 u3),(16,int i64 (u4+1))] u2 g)))/\(decide (u4<u3)=false->Q (AEx.exit 0) (St.mk [(6,ref 1 0),(14,au l),(15,int i64 u3),(16,int i64 u4),(17,AV.bool (decide (u4<u3)))] [u5,cells false 27 (ae p v (AV.mp 2)),AObj.map (esF p.rules.l)] g))) (cells false 2 (nth [int i64 p.atoms,af p.rules]))) ((↑i:Int))) ((↑(List.length l.l):Int))) ([cells false 2 (nth [int i64 p.atoms,af p.rules]),cells false 27 (ae p (newS p v (List.getD l.l i default)) (AV.mp 2)),AObj.map (esF p.rules.l),cells false 2 (nth u1)])) ([int i64 (List.getD l.l i default).rule,fz (List.getD l.l i default).atoms.2 1 (List.length (List.getD l.l i default).atoms.l) fun i_1 x=>ac (List.getD l.l i default).atoms.l i_1])) ⟨fun c1=>have c1:(↑i:Int)<(↑(List.length l.l):Int):=(of_decide_eq_true c1);⟨omg,omg,omg,(fun c hc=>match c,hc with|0,_=>krf|1,_=>krf ),omg,(fun _ _=>⟨rfl,(lm _ _ _ _)⟩),⟨rfl,(hD _ _ _ _ _ _)⟩,fun h=>(nomatch h),fun _=>⟨omg,?_⟩⟩,fun c1=>have c1:¬(↑i:Int)<(↑(List.length l.l):Int):=(of_decide_eq_false c1);?_⟩
    ·refine(aQ (i+1) (toS [0,1,2] 4 (hob:=⟨⟨rfl,Nat.le_refl _,fun j hj=>match j,hj with|0,_=>(zT _)|1,_=>(zT _) ⟩,(z4 (fun j hj=>?_)),rfl,trivial⟩)) ?_ ?_)
     ·rw[hrt]
      exact(zy (f:=ar [0,1,2] 4) (k:=2) rfl).symm
     ·refine⟨omg,?_⟩
      rw[hrt]
      exact h2
     ·omega
    ·exfalso;omega
   |false=>
    simp only[hk,if_false] at hD
    rw[if_neg (by rw[hk];decide)] at h2
    rw[h2,if_pos omg,if_pos omg]
    refine vcR [[1,1,1,0,1,0,0,1,1,0,0,1,1,1]] (lkL [(5,[6,14,15,16,17]),(6,[6,7,8,14,15,16]),(7,[6,7,14,15,16,25]),(8,[4,5])]) (lkL [(6,[(5,ROrc.val (Orc.obj (nth [int i64 (List.getD l.l i default).rule,fz (List.getD l.l i default).atoms.2 1 (List.length (List.getD l.l i default).atoms.l) fun (i_1 x:Nat)=>ac (List.getD l.l i default).atoms.l i_1])))]),(7,[(2,ROrc.pcall (cT (List.getD l.l i default))),(3,ROrc.call (AV.bool false) [cells false 2 (nth [int i64 p.atoms,af p.rules]),cells false 27 (ae p (if false=true then newS p v (List.getD l.l i default) else v) (AV.mp 2)),AObj.map (esF p.rules.l),cells false 2 (nth [int i64 (List.getD l.l i default).rule,fz (List.getD l.l i default).atoms.2 1 (List.length (List.getD l.l i default).atoms.l) fun (i_1 x:Nat)=>ac (List.getD l.l i default).atoms.l i_1])] g)])]) (fun Q=>(fun (u1:List AV)=>(fun (u2:List AObj)=>(fun (u3:Int)=>(fun (u4:Int)=>(fun (u5:AObj)=>(decide (u4<u3)=true->(0<=u4/\u4<u3)/\2<=2/\2<=2/\(∀(c:Nat),c<2->nth u1 c=aj (nth [int i64 0,fz Fz.nil 0 0 fun x x_1=>any]) 0 2 (List.brecOn (motive:=fun (x:List AV)=>Nat->AV) u1 nth._f) c)/\2<=2/\(∀(hp:List AObj) (g:R.σ),true=true/\Does Tryd.prog R 68 [agg 2 (nth u1)] hp g (ret (cT (List.getD l.l i default))) hp g)/\(true=true/\Does Tryd.prog R 67 [ref 1 0,evO [Row.mk (some 23) none (cT (List.getD l.l i default)) false (some []) [],Row.mk (some 22) none (agg 2 (nth u1)) false (some []) [3],Row.mk (some 21) none (ref 1 0) false (some []) []] [(6,ref 1 0),(7,int i64 u4),(8,ref 3 0),(14,au l),(15,int i64 u3),(16,int i64 u4)] [] (Operand.tmp 23)] [u5,cells false 27 (ae p v (AV.mp 2)),AObj.map (esF p.rules.l),cells false 2 (nth u1)] g (ret (AV.bool false)) u2 g)/\(true=true->Q AEx.ret (St.mk [(4,int i64 u4),(5,int i64 7)] u2 g))/\(true=false->WpC Tryd.prog R 28 0 23 [1,1,1,0,1,0,0,1,1,0,0,1,1,1] Q [Kont.blk 1,Kont.seq [1,1,1,0,1,0,0,1,1,1]] (St.mk [(6,ref 1 0),(7,int i64 u4),(14,au l),(15,int i64 u3),(16,int i64 u4),(25,AV.bool true)] u2 g)))/\(decide (u4<u3)=false->Q (AEx.exit 0) (St.mk [(6,ref 1 0),(14,au l),(15,int i64 u3),(16,int i64 u4),(17,AV.bool (decide (u4<u3)))] [u5,cells false 27 (ae p v (AV.mp 2)),AObj.map (esF p.rules.l)] g))) (cells false 2 (nth [int i64 p.atoms,af p.rules]))) ((↑i:Int))) ((↑(List.length l.l):Int))) ([cells false 2 (nth [int i64 p.atoms,af p.rules]),cells false 27 (ae p (if false=true then newS p v (List.getD l.l i default) else v) (AV.mp 2)),AObj.map (esF p.rules.l),cells false 2 (nth u1)])) ([int i64 (List.getD l.l i default).rule,fz (List.getD l.l i default).atoms.2 1 (List.length (List.getD l.l i default).atoms.l) fun i_1 x=>ac (List.getD l.l i default).atoms.l i_1])) ⟨fun c1=>have c1:(↑i:Int)<(↑(List.length l.l):Int):=(of_decide_eq_true c1);⟨omg,omg,omg,(fun c hc=>match c,hc with|0,_=>krf|1,_=>krf ),omg,(fun _ _=>⟨rfl,(lm _ _ _ _)⟩),⟨rfl,(hD _ _ _ _ _ _)⟩,fun _=>?_,fun h=>(nomatch h)⟩,fun c1=>have c1:¬(↑i:Int)<(↑(List.length l.l):Int):=(of_decide_eq_false c1);?_⟩
    ·refine⟨_,z6 _,(aq (bl _ _ rfl trivial ⟨⟨trivial,trivial⟩,trivial⟩ rfl) (zT _))⟩
    ·exfalso;omega
  ·have hie:i=l.l.length:=by omega
   subst hie
   rw[List.drop_length] at h2
   have h2:eL p l.l (fun _=>3) 0 = -1:=h2
   rw[h2,if_neg omg,if_neg omg]
   refine vcR [] (lkL [(5,[6,14,15,16,17]),(6,[6,7,8,14,15,16]),(7,[6,7,14,15,16,25]),(8,[4,5]),(9,[6,14,15,16])]) (lkL [(6,[(5,ROrc.val (Orc.obj (nth [int i64 (List.getD l.l (List.length l.l) default).rule,fz (List.getD l.l (List.length l.l) default).atoms.2 1 (List.length (List.getD l.l (List.length l.l) default).atoms.l) fun (i x:Nat)=>ac (List.getD l.l (List.length l.l) default).atoms.l i])))]),(7,[(2,ROrc.pcall (cT (List.getD l.l (List.length l.l) default))),(3,ROrc.call (AV.bool (okS p (cX p (fun (x:Nat)=>3) (List.take (List.length l.l) l.l)) (List.getD l.l (List.length l.l) default))) [cells false 2 (nth [int i64 p.atoms,af p.rules]),cells false 27 (ae p (if okS p (cX p (fun (x:Nat)=>3) (List.take (List.length l.l) l.l)) (List.getD l.l (List.length l.l) default)=true then newS p (cX p (fun (x:Nat)=>3) (List.take (List.length l.l) l.l)) (List.getD l.l (List.length l.l) default) else cX p (fun (x:Nat)=>3) (List.take (List.length l.l) l.l)) (AV.mp 2)),AObj.map (esF p.rules.l),cells false 2 (nth [int i64 (List.getD l.l (List.length l.l) default).rule,fz (List.getD l.l (List.length l.l) default).atoms.2 1 (List.length (List.getD l.l (List.length l.l) default).atoms.l) fun (i x:Nat)=>ac (List.getD l.l (List.length l.l) default).atoms.l i])] g)])]) (fun Q=>(fun (u1:List AV)=>(fun (u2:List AObj)=>(fun (u3:Int)=>(fun (u4:Bool)=>(fun (u5:AObj)=>(fun (u6:AObj)=>(decide (u3<u3)=true->(0<=u3/\u3<u3)/\2<=2/\2<=2/\(∀(c:Nat),c<2->nth u1 c=aj (nth [int i64 0,fz Fz.nil 0 0 fun x x_1=>any]) 0 2 (List.brecOn (motive:=fun (x:List AV)=>Nat->AV) u1 nth._f) c)/\2<=2/\(∀(hp:List AObj) (g:R.σ),true=true/\Does Tryd.prog R 68 [agg 2 (nth u1)] hp g (ret (cT (List.getD l.l (List.length l.l) default))) hp g)/\(true=true/\Does Tryd.prog R 67 [ref 1 0,evO [Row.mk (some 23) none (cT (List.getD l.l (List.length l.l) default)) false (some []) [],Row.mk (some 22) none (agg 2 (nth u1)) false (some []) [3],Row.mk (some 21) none (ref 1 0) false (some []) []] [(6,ref 1 0),(7,int i64 u3),(8,ref 3 0),(14,au l),(15,int i64 u3),(16,int i64 u3)] [] (Operand.tmp 23)] [u6,u5,AObj.map (esF p.rules.l),cells false 2 (nth u1)] g (ret (AV.bool u4)) u2 g)/\((!u4)=true->Q AEx.ret (St.mk [(4,int i64 u3),(5,int i64 7)] u2 g))/\((!u4)=false->(-9223372036854775808<=u3+1/\u3+1<=9223372036854775807)/\Q AEx.normal (St.mk [(6,ref 1 0),(14,au l),(15,int i64 u3),(16,int i64 (u3+1))] u2 g)))/\(decide (u3<u3)=false->Q (AEx.exit 0) (St.mk [(6,ref 1 0),(14,au l),(15,int i64 u3),(16,int i64 u3),(17,AV.bool (decide (u3<u3)))] [u6,u5,AObj.map (esF p.rules.l)] g))) (cells false 2 (nth [int i64 p.atoms,af p.rules]))) (cells false 27 (ae p (cX p (fun (x:Nat)=>3) (List.take (List.length l.l) l.l)) (AV.mp 2)))) (okS p (cX p (fun (x:Nat)=>3) (List.take (List.length l.l) l.l)) (List.getD l.l (List.length l.l) default))) ((↑(List.length l.l):Int))) ([cells false 2 (nth [int i64 p.atoms,af p.rules]),cells false 27 (ae p (if okS p (cX p (fun (x:Nat)=>3) (List.take (List.length l.l) l.l)) (List.getD l.l (List.length l.l) default)=true then newS p (cX p (fun (x:Nat)=>3) (List.take (List.length l.l) l.l)) (List.getD l.l (List.length l.l) default) else cX p (fun (x:Nat)=>3) (List.take (List.length l.l) l.l)) (AV.mp 2)),AObj.map (esF p.rules.l),cells false 2 (nth u1)])) ([int i64 (List.getD l.l (List.length l.l) default).rule,fz (List.getD l.l (List.length l.l) default).atoms.2 1 (List.length (List.getD l.l (List.length l.l) default).atoms.l) fun i x=>ac (List.getD l.l (List.length l.l) default).atoms.l i])) ⟨fun c1=>have c1:(↑(List.length l.l):Int)<(↑(List.length l.l):Int):=(of_decide_eq_true c1);⟨omg,omg,omg,(fun c hc=>match c,hc with|0,_=>krf|1,_=>krf ),omg,(fun _ _=>⟨rfl,(lm _ _ _ _)⟩),⟨rfl,(sD _ _ _ _ _ _ _ _ _ omg omg (by simp at * <;> omega) omg (by simp at * <;> omega) _)⟩,fun c2=>have c2:okS p (cX p (fun (x:Nat)=>3) (List.take (List.length l.l) l.l)) (List.getD l.l (List.length l.l) default)=false:=((Bool.not_eq_true' _).mp c2);?_,fun c2=>have c2:okS p (cX p (fun (x:Nat)=>3) (List.take (List.length l.l) l.l)) (List.getD l.l (List.length l.l) default)=true:=((Bool.not_eq_false' _).mp c2);⟨omg,?_⟩⟩,fun c1=>have c1:¬(↑(List.length l.l):Int)<(↑(List.length l.l):Int):=(of_decide_eq_false c1);?_⟩
   all_goals first|(exfalso;omega)|skip
   refine⟨_,z6 _,vcR [] (lkL [(10,[4,5])]) (fun _=>[]) (fun (Q:AEx->St R.σ->Prop)=>Q AEx.ret (St.mk [(4,int i64 0),(5,int i64 0)] [cells false 2 (nth [int i64 p.atoms,af p.rules]),cells false 27 (ae p (cX p (fun (x:Nat)=>3) (List.take (List.length l.l) l.l)) (AV.mp 2)),AObj.map (esF p.rules.l)] g)) (?_)⟩
   refine(aq (bl _ _ rfl trivial ⟨⟨trivial,trivial⟩,trivial⟩ rfl) (zT _))
section
variable {p:Prg}{n:Nat}{v:List Int}{f:Nat->Int}
theorem zA (s:Step):(s.rule = -1/\dA s=1)∨(s.rule ≠ -1/\dA s=2):=by
 unfold dA
 by_cases h:s.rule = -1
 ·exact .inl ⟨h,if_pos h⟩
 ·exact .inr ⟨h,if_neg h⟩
theorem sE {s:Step}{f':Nat->Int}(ha:Agr n v f)(hin:∀a,a∈s.atoms.l->0<=a)(hf:∀j,j<n->f' j=if (j:Int)∈s.atoms.l then dA s else f j):Agr n (ez v s) f':=by
 refine⟨lI.trans ha.len,fun j hj=>?_,fun j hj=>?_⟩
 ·rw[hf j hj,<-ha.get j hj]
  exact sq (by rw[ha.len];exact hj) hin
 ·rw[hf j hj]
  split
  ·rcases zA s with⟨_,h⟩|⟨_,h⟩
   ·exact .inl h
   ·exact .inr (.inl h)
  ·exact ha.val j hj
theorem sF (hpa:p.atoms=n)(ha:Agr n v f){l:List Int}{i:Nat}:badA v l i = !cL p f l i:=by
 unfold badA cL dJ
 rw[hpa,ha.len]
 by_cases h:0<=l.getD i 0/\l.getD i 0<=(n:Int)-1
 ·rw[decide_eq_true h,ha.get _ (show(l.getD i 0).toNat<n by omega)]
  rw[show(f (l.getD i 0).toNat != 3) = !(f (l.getD i 0).toNat==3) from rfl]
  cases hv:f (l.getD i 0).toNat==3 with
  |false=>
   generalize (bif (i:Int)==0 then true else decide (l.getD i 0 > l.getD ((i:Int)-1).toNat 0))=X
   cases X <;> rfl
  |true=>
   rcases Nat.eq_zero_or_pos i with h0|h0
   ·subst h0
    rfl
   ·have e1:((i:Int)==0)=false:=by rw[beq_eq_false_iff_ne];omega
    have e2:decide ((i:Int) > 0)=true:=decide_eq_true omg
    rw[e1,e2]
    simp only[Bool.not_true,cond_false,cond_true]
    by_cases hc:l.getD i 0<=l.getD ((i:Int)-1).toNat 0
    ·rw[decide_eq_true hc,decide_eq_false omg];rfl
    ·rw[decide_eq_false hc,decide_eq_true omg];rfl
 ·rw[decide_eq_false h]
  rfl
theorem zB (hpa:p.atoms=n)(ha:Agr n v f){l:List Int}:dY v l l.length=false↔∀i,i<l.length->cL p f l i=true:=by
 unfold dY
 rw[List.any_eq_false]
 constructor
 ·intro h i hi
  have:=h i (List.mem_range.2 hi)
  rw[sF hpa ha] at this
  simpa using this
 ·intro h i hi
  rw[sF hpa ha,h i (List.mem_range.1 hi)]
  simp
theorem sG (hpa:p.atoms=n){l:List Int}(h:∀i,i<l.length->cL p f l i=true):∀a,a∈l->0<=a/\a<n/\f a.toNat=3:=by
 intro a hm
 obtain⟨i,hi,rfl⟩:=List.getElem_of_mem hm
 have h1:=h i hi
 have h2:=jJ (lp h1)
 have e:l.getD i 0=l[i]:=by rw[List.getD_eq_getElem?_getD,List.getElem?_eq_getElem hi];rfl
 rw[e,hpa] at h2
 refine⟨h2.1,omg,?_⟩
 unfold cL at h1
 rw[e] at h1
 cases hp:dJ p l i with
 |false=>rw[hp] at h1;cases h1
 |true=>
  rw[hp] at h1
  exact eq_of_beq h1
theorem sH {l:List Int}(h:∀a,a∈l->0<=a)(j:Nat):(aO l).testBit j=true↔(j:Int)∈l:=by
 rw[rj,List.any_eq_true]
 constructor
 ·rintro ⟨a,ha,hj⟩
  have:=h a ha
  have:a.toNat=j:=eq_of_beq hj
  have:a=j:=by omega
  rw[<-this];exact ha
 ·intro hm
  exact⟨j,hm,by simp⟩
theorem zC {l:List Int}(h:∀a,a∈l->0<=a/\a<n)(j:Nat):(cz n l).getD j false=true↔(j:Int)∈l:=by
 have key:∀(l:List Int) (b:List Bool),(∀a,a∈l->0<=a/\a<b.length)->((l.foldl (fun (b:List Bool) (a:Int)=>b.set a.toNat true) b).getD j false=true↔(j:Int)∈l∨b.getD j false=true):=by
  intro l
  induction l with
  |nil=>intro b _;simp
  |cons a l ih=>
   intro b hb
   have h1:=hb a List.mem_cons_self
   rw[List.foldl_cons,ih _ (fun x hx=>by rw[List.length_set];exact hb x (List.mem_cons_of_mem _ hx)),List.mem_cons,List.getD_eq_getElem?_getD,List.getElem?_set]
   by_cases e:a.toNat=j
   ·rw[if_pos e,if_pos omg]
    have:(j:Int)=a:=by omega
    simp[this]
   ·rw[if_neg e,<-List.getD_eq_getElem?_getD]
    have:¬(j:Int)=a:=fun h=>e omg
    simp[this]
 unfold cz
 rw[key l _ (fun a ha=>by rw[List.length_replicate];exact h a ha)]
 have:(List.replicate n false).getD j false=false:=by
  rw[List.getD_eq_getElem?_getD,List.getElem?_replicate]
  split <;> rfl
 rw[this]
 simp
theorem zD (hpa:p.atoms=n)(hn:n<=24)(ha:Agr n v f)(hr:∀r,r∈p.rules.l->aK r)(hrn:∀r,r∈p.rules.l->ge n r)(s:Step):gg v p s=okS p f s:=by
 have hbad:=zB (p:=p) (l:=s.atoms.l) hpa ha
 unfold gg okS
 cases hb:dY v s.atoms.l s.atoms.l.length with
 |true=>
  have hno:¬∀i,i<s.atoms.l.length->cL p f s.atoms.l i=true:=fun h=>by rw[hbad.2 h] at hb;cases hb
  show false=_
  symm
  split
  ·unfold cU cF
   cases hall:(List.range s.atoms.l.length).all (cL p f s.atoms.l) with
   |true=>exact absurd (fun i hi=>List.all_eq_true.1 hall i (List.mem_range.2 hi)) hno
   |false=>simp
  ·cases hk:cx p f s with
   |false=>rfl
   |true=>
    exfalso
    unfold cx at hk
    simp only[Bool.and_eq_true,beq_iff_eq,decide_eq_true_eq] at hk
    obtain⟨k1,k2,k3,k4,k5⟩:=hk
    have hq:=(hrn _ (ek (show s.rule.toNat<p.rules.l.length by omega))).2
    refine hno (fun i hi=>?_)
    have:i=0:=by omega
    subst this
    unfold cL dJ
    rw[k3,k4,decide_eq_true omg]
    rfl
 |false=>
  have hall:=hbad.1 hb
  have hin:=sG hpa hall
  show(true&&_)=_
  rw[Bool.true_and]
  by_cases hs:s.rule = -1
  ·rw[if_pos hs,if_pos hs]
   unfold iF cU cF
   rw[show(List.range s.atoms.l.length).all (cL p f s.atoms.l)=true from List.all_eq_true.2 (fun i hi=>hall i (List.mem_range.1 hi)),Bool.and_true]
   have e1:decide ((s.atoms.l.length:Int) > 0)=decide (0<s.atoms.l.length):=decide_eq_decide.2 omg
   rw[e1,ha.len]
   have e2:ey v (cz n s.atoms.l) p=dw p f (aO s.atoms.l):=by
    have hSB:=zC (n:=n) (l:=s.atoms.l) (fun a h=>⟨(hin a h).1,(hin a h).2.1⟩)
    have hSL:=sH (l:=s.atoms.l) (fun a h=>(hin a h).1)
    have hbit:∀j,(cz n s.atoms.l).getD j false=(aO s.atoms.l).testBit j:=fun j=>by rw[Bool.eq_iff_iff,hSB,hSL]
    have hfun:(fun j=>(cz n s.atoms.l).getD j false)=fun j=>(aO s.atoms.l).testBit j:=funext hbit
    have hsup:∀r,r∈p.rules.l->cq v (cz n s.atoms.l) r=aZ f (aO s.atoms.l) r:=fun r hrm=>by
     rw[yN ha (hrn r hrm).1,hfun]
     rfl
    unfold ey dw
    congr 1
    rw[Bool.eq_iff_iff,List.any_eq_true,List.any_eq_true]
    constructor
    ·rintro ⟨r,hrm,h⟩
     unfold gf at h
     rw[Bool.and_eq_true,hbit,hsup r hrm] at h
     have hrk:=(hr r hrm).2
     refine⟨r.head.toNat,Tb.mem_memN.2 ⟨omg,h.1⟩,List.any_eq_true.2 ⟨r,so.2 ⟨hrm,omg⟩,h.2⟩⟩
    ·rintro ⟨a,ham,h⟩
     obtain⟨r,hr1,hr2⟩:=List.any_eq_true.1 h
     obtain⟨hrm,hra⟩:=so.1 hr1
     refine⟨r,hrm,?_⟩
     unfold gf
     rw[Bool.and_eq_true,hbit,hsup r hrm]
     refine⟨?_,hr2⟩
     rw[hra,Int.toNat_natCast]
     exact(Tb.mem_memN.1 ham).2
   rw[e2]
   cases decide (0<s.atoms.l.length) <;> rfl
  ·rw[if_neg hs,if_neg hs]
   unfold j3 cx
   by_cases h1:0<=s.rule/\s.rule<=(p.rules.l.length:Int)-1
   ·rw[decide_eq_true h1]
    have hrm:=hrn _ (ek (show s.rule.toNat<p.rules.l.length by omega))
    rw[yL ha hrm.1]
    by_cases h2:s.atoms.l.length=1
    ·have e1:((s.atoms.l.length:Int)==1)=true:=by rw[beq_iff_eq];omega
     rw[e1,show(s.atoms.l.length==1)=true by rw[beq_iff_eq];exact h2]
     cases h3:s.atoms.l.getD 0 0==(p.rules.l.getD s.rule.toNat default).head with
     |false=>rfl
     |true=>
      have h4:=(hin (s.atoms.l.getD 0 0) (bQ _ 0 omg)).2.2
      rw[eq_of_beq h3] at h4
      rw[h4]
      rfl
    ·have e1:((s.atoms.l.length:Int)==1)=false:=by rw[beq_eq_false_iff_ne];omega
     rw[e1,show(s.atoms.l.length==1)=false by rw[beq_eq_false_iff_ne];exact h2]
     rfl
   ·rw[decide_eq_false h1]
    rfl
theorem zE (hpa:p.atoms=n)(ha:Agr n v f){s:Step}(hrn:∀r,r∈p.rules.l->ge n r)(hk:okS p f s=true):Agr n (ez v s) (newS p f s):=by
 unfold okS at hk
 unfold newS
 by_cases hs:s.rule = -1
 ·rw[if_pos hs] at hk ⊢
  unfold cU cF at hk
  rw[Bool.and_eq_true,Bool.and_eq_true,List.all_eq_true] at hk
  have hin:=sG (f:=f) hpa (fun i hi=>hk.1.2 i (List.mem_range.2 hi))
  refine sE ha (fun a h=>(hin a h).1) (fun j hj=>?_)
  unfold cV
  have:=sH (l:=s.atoms.l) (fun a h=>(hin a h).1) j
  by_cases hm:(j:Int)∈s.atoms.l
  ·rw[if_pos (this.2 hm),if_pos hm]
   exact(if_pos hs).symm
  ·rw[if_neg (fun h=>hm (this.1 h)),if_neg hm]
 ·rw[if_neg hs] at hk ⊢
  unfold cx at hk
  simp only[Bool.and_eq_true,beq_iff_eq,decide_eq_true_eq] at hk
  obtain⟨k1,k2,k3,k4,k5⟩:=hk
  have hq:=(hrn _ (ek (show s.rule.toNat<p.rules.l.length by omega))).2
  obtain⟨a,hl⟩:∃a,s.atoms.l=[a]:=List.length_eq_one_iff.1 k2
  rw[hl] at k3
  have k3:a=(p.rules.l.getD s.rule.toNat default).head:=k3
  refine sE ha (fun b hb=>by rw[hl,List.mem_singleton] at hb;omega) (fun j hj=>?_)
  unfold fc el
  rw[hl]
  by_cases hm:(j:Int)=a
  ·rw[if_pos (List.mem_singleton.2 hm),if_pos omg]
   exact(if_neg hs).symm
  ·rw[if_neg (fun h=>hm (List.mem_singleton.1 h)),if_neg omg]
theorem sI (hpa:p.atoms=n)(hn:n<=24)(hr:∀r,r∈p.rules.l->aK r)(hrn:∀r,r∈p.rules.l->ge n r):∀{l:List Step} {v:List Int} {f:Nat->Int} {i:Nat},Agr n v f->gT p l v i=eL p l f i
 |[],_,_,_,_=>rfl
 |s::l,v,f,i,ha=>by
  show(if gg v p s then _ else _)=(if okS p f s then _ else _)
  rw[zD hpa hn ha hr hrn s]
  cases hk:okS p f s with
  |false=>rfl
  |true=>exact sI hpa hn hr hrn (zE hpa ha hrn hk)
theorem zF:Agr n (List.replicate n 3) (fun _=>3):=
 ⟨List.length_replicate,fun j hj=>by rw[List.getD_eq_getElem?_getD,List.getElem?_replicate_of_lt hj];rfl,fun _ _=>.inr (.inr rfl)⟩
end
def fI (l:KL Step):Bool:=decide (l.l.length<=40)&&l.l.all (fun s=>decide (s.atoms.l.length<=40))
theorem j8 (R:Res)(l:KL Step)(hp:List AObj)(g:R.σ):Does Tryd.prog R 22 [au l] hp g (.ret (.bool (fI l))) hp g:=by
 refine bP (fun R g=>?_) (by exact⟨trivial,trivial⟩) R hp g
 refine spW (nt:=20) (rs:=[.tmp 2]) (k0:=0) ?_
 refine vcR [] (lkL [(0,[0]),(1,[0,6]),(2,[2]),(3,[0,3])]) (fun _=>[]) (fun Q=>(fun (u1:Int)=>(decide (u1 > 40)=true->Q AEx.ret (St.mk [(2,AV.bool false)] [] g))/\(decide (u1 > 40)=false->WpC Tryd.prog R 20 0 22 [1,1,0,1,0] Q [Kont.blk 0,Kont.seq [1,1,1]] (St.mk [(0,au l),(3,int i64 0)] [] g))) ((↑(List.length l.l):Int))) ⟨fun c1=>have c1:(↑(List.length l.l):Int) > 40:=(of_decide_eq_true c1);?_,fun c1=>have c1:¬(↑(List.length l.l):Int) > 40:=(of_decide_eq_false c1);?_⟩
 ·refine(aq (aU _ _ rfl trivial rfl rfl rfl) (zU ?_))
  show(AV.bool false)=_
  show AV.bool false=_
  congr 1
  symm
  unfold fI
  rw[decide_eq_false omg]
  rfl
 ·have hc:=c1
  refine(aX krf (fun (i:Nat)=>⟨[(0,au l),(3,.int .i64 i)],[],g⟩) (fun (i:Nat)=>(i<=l.l.length/\∀j,j<i->(l.l.getD j default).atoms.l.length<=40)) (fun (i:Nat)=>(l.l.length-i)) 0 (aT ⟨zT _,(zU krf),trivial⟩ rfl rfl) ?_ (fun i hi=>?_))
  ·exact⟨Nat.zero_le _,fun j hj=>absurd hj (Nat.not_lt_zero _)⟩
  ·obtain⟨h1,h2⟩:=hi
   refine vcR [] (lkL [(4,[0,3,10]),(6,[0,3,19]),(7,[2]),(5,[0,3])]) (fun _=>[]) (fun Q=>(fun (u1:Int)=>(fun (u2:Int)=>(fun (u3:Int)=>(decide (u3<u2)=true->(0<=u3/\u3<u2)/\1<=1/\(decide (u1 > 40)=true->Q AEx.ret (St.mk [(2,AV.bool false)] [] g))/\(decide (u1 > 40)=false->(-9223372036854775808<=u3+1/\u3+1<=9223372036854775807)/\Q AEx.normal (St.mk [(0,au l),(3,int i64 (u3+1))] [] g)))/\(decide (u3<u2)=false->Q (AEx.exit 0) (St.mk [(0,au l),(3,int i64 u3),(10,AV.bool (decide (u3<u2)))] [] g))) ((↑i:Int))) ((↑(List.length l.l):Int))) ((↑(List.length (List.getD l.l i default).atoms.l):Int))) ⟨fun c1=>have c1:(↑i:Int)<(↑(List.length l.l):Int):=(of_decide_eq_true c1);⟨omg,omg,fun c2=>have c2:(↑(List.length (List.getD l.l i default).atoms.l):Int) > 40:=(of_decide_eq_true c2);?_,fun c2=>have c2:¬(↑(List.length (List.getD l.l i default).atoms.l):Int) > 40:=(of_decide_eq_false c2);⟨omg,?_⟩⟩,fun c1=>have c1:¬(↑i:Int)<(↑(List.length l.l):Int):=(of_decide_eq_false c1);?_⟩
   ·refine⟨_,z6 _,(aq (aU _ _ rfl trivial rfl rfl rfl) (zU ?_))⟩
    show(AV.bool false)=_
    show AV.bool false=_
    congr 1
    symm
    cases hb:fI l with
    |false=>rfl
    |true=>
     exfalso
     unfold fI at hb
     simp only[Bool.and_eq_true] at hb
     have:=of_decide_eq_true (ej.1 hb.2 i omg)
     omega
   ·refine(aQ (i+1) (aT ⟨zT _,(zU krf),trivial⟩ rfl rfl) ?_ ?_)
    ·refine⟨omg,fun j hj=>?_⟩
     rcases Nat.lt_or_ge j i with h|h
     ·exact h2 j h
     ·have:j=i:=by omega
      subst this
      omega
    ·omega
   ·have hie:i=l.l.length:=by omega
    subst hie
    refine⟨_,z6 _,vcR [] (lkL [(8,[2])]) (fun _=>[]) (fun (Q:AEx->St R.σ->Prop)=>Q AEx.ret (St.mk [(2,AV.bool true)] [] g)) (?_)⟩
    refine(aq (aU _ _ rfl trivial rfl rfl rfl) (zU ?_))
    show(AV.bool true)=_
    show AV.bool true=_
    congr 1
    symm
    unfold fI
    rw[decide_eq_true omg,Bool.true_and]
    exact ej.2 (fun j hj=>decide_eq_true (h2 j hj))
theorem zG:Rea Tryd.prog 53 1 (fun _:KL Int=>True) (fun x _=>ah x):=
 Rea.map (kN Tryd.underlying53 krf omg (ju Tryd.underlying3)) lS (fun _ _=>trivial) (fun x j hj=>rfl)
theorem zH:Rea Tryd.prog 71 2 (fun _:Step=>True) e8:=by
 have h:=kM (n:=2) Tryd.underlying71 krf (fW rfl (m:=1) krf (ju Tryd.underlying3) (fW rfl (m:=1) krf zG kL))
 exact h.map (fun x=>⟨x.1,x.2.1⟩) (fun _ _=>trivial) (fun x j hj=>match j,hj with|0,_=>rfl|1,_=>rfl)
theorem zI:Rea Tryd.prog 29 1 (fun _:KL Step=>True) (fun x _=>au x):=
 Rea.map (kN Tryd.underlying29 krf omg zH) lS (fun _ _=>trivial) (fun x j hj=>rfl)
theorem zJ:Arg Tryd.prog 29 (fun _:KL Step=>True) au:=vg Tryd.underlying29 zI
theorem zK (R:Res)[Tab LT R](p:Prg)(l:KL Step)(g:R.σ):Does Tryd.prog R 4 [av p,au l] [] g (.ret (.bool true)) [] g:=by
 refine spW (nt:=59) (rs:=[.tmp 4]) (k0:=0) ?_
 cases hsm:f6 p with
 |false=>
  refine vcR [[1,0,1,1]] (lkL [(0,[1,2]),(1,[1,2,15]),(2,[4])]) (lkL [(1,[(1,ROrc.pcall (AV.bool false)),(5,ROrc.pcall (AV.bool (fI l)))]),(2,[(0,ROrc.kcall (AV.bool true))])]) (fun Q=>(fun (u1:List AObj)=>2<=2/\(∀(hp:List AObj) (g:R.σ),true=true/\Does Tryd.prog R 14 [av p] hp g (ret (AV.bool false)) hp g)/\(false=true->∀(hp:List AObj) (g:R.σ),true=true/\Does Tryd.prog R 22 [au l] hp g (ret (AV.bool (fI l))) hp g)/\(true=true->(true=true/\Does Tryd.prog R 15 [] u1 g (ret (AV.bool true)) u1 g)/\Q AEx.ret (St.mk [(4,AV.bool true)] u1 g))/\(true=false->WpC Tryd.prog R 59 0 4 [1,0,1,1] Q [Kont.seq [1,1]] (St.mk [(1,au l),(2,ref 0 0),(15,AV.bool true)] u1 g))) ([cells false 2 (nth [int i64 p.atoms,af p.rules])])) ⟨omg,(fun _ _=>⟨rfl,(dG hsm (jC _ _ _ _))⟩),(fun hgd=>(fun _ _=>⟨rfl,(j8 _ _ _ _)⟩)),fun _=>⟨⟨rfl,(doT (T:=LT) [] 1 (fun R _ g=>j7 R g))⟩,?_⟩,fun h=>(nomatch h)⟩
  refine(aq (bl _ _ rfl trivial trivial rfl) (zT _))
 |true=>
  have hs:=wt hsm
  cases hst:fI l with
  |false=>
   refine vcR [[1,0,1,1]] (lkL [(0,[1,2]),(1,[1,2,15]),(2,[4])]) (lkL [(1,[(1,ROrc.pcall (AV.bool true)),(5,ROrc.pcall (AV.bool false))]),(2,[(0,ROrc.kcall (AV.bool true))])]) (fun Q=>(fun (u1:List AObj)=>2<=2/\(∀(hp:List AObj) (g:R.σ),true=true/\Does Tryd.prog R 14 [av p] hp g (ret (AV.bool true)) hp g)/\(true=true->∀(hp:List AObj) (g:R.σ),true=true/\Does Tryd.prog R 22 [au l] hp g (ret (AV.bool false)) hp g)/\(true=true->(true=true/\Does Tryd.prog R 15 [] u1 g (ret (AV.bool true)) u1 g)/\Q AEx.ret (St.mk [(4,AV.bool true)] u1 g))/\(true=false->WpC Tryd.prog R 59 0 4 [1,0,1,1] Q [Kont.seq [1,1]] (St.mk [(1,au l),(2,ref 0 0),(15,AV.bool true)] u1 g))) ([cells false 2 (nth [int i64 p.atoms,af p.rules])])) ⟨omg,(fun _ _=>⟨rfl,(dG hsm (jC _ _ _ _))⟩),(fun hgd=>(fun _ _=>⟨rfl,(dG hst (j8 _ _ _ _))⟩)),fun _=>⟨⟨rfl,(doT (T:=LT) [] 1 (fun R _ g=>j7 R g))⟩,?_⟩,fun h=>(nomatch h)⟩
   refine(aq (bl _ _ rfl trivial trivial rfl) (zT _))
  |true=>
   have hst':=hst
   unfold fI at hst'
   rw[Bool.and_eq_true,decide_eq_true_eq] at hst'
   have hat:∀i,(l.l.getD i default).atoms.l.length<1000000:=fun i=>by
    rcases Nat.lt_or_ge i l.l.length with hi|hi
    ·have:=of_decide_eq_true (ej.1 hst'.2 i hi)
     omega
    ·rw[List.getD_eq_getElem?_getD,List.getElem?_eq_none hi]
     exact(by decide:(default:Step).atoms.l.length<1000000)
   cases hb:aJ p with
   |false=>
    have hV:∀(R:Res) (hp:List AObj) (g:R.σ),Does Tryd.prog R 23 [av p,au l] hp g (.ret (.tup 2 (nth [.int .i64 0,.int .i64 2]))) hp g:=fun R hp g=>yh R p l hs hb hp g
    refine vcR [[1,0,1,0],[1,1,1,0,1,1]] (lkL [(0,[1,2]),(1,[1,2,15]),(3,[1,2,5,6]),(4,[1,2,5,6,25]),(5,[4])]) (lkL [(1,[(1,ROrc.pcall (AV.bool true)),(5,ROrc.pcall (AV.bool true))]),(3,[(2,ROrc.pcall (tup 2 (nth [int i64 0,int i64 2])))]),(4,[(1,ROrc.pcall (AV.bool false))]),(5,[(7,ROrc.kcall (AV.bool true))])]) (fun Q=>(fun (u1:List AObj)=>2<=2/\(∀(hp:List AObj) (g:R.σ),true=true/\Does Tryd.prog R 14 [av p] hp g (ret (AV.bool true)) hp g)/\(true=true->∀(hp:List AObj) (g:R.σ),true=true/\Does Tryd.prog R 22 [au l] hp g (ret (AV.bool true)) hp g)/\(false=true->WpC Tryd.prog R 59 0 4 [1,0,1,0] Q [Kont.seq [1,1]] (St.mk [(1,au l),(2,ref 0 0),(15,AV.bool false)] u1 g))/\(false=false->2<=2/\(∀(hp:List AObj) (g:R.σ),true=true/\Does Tryd.prog R 23 [av p,au l] hp g (ret (tup 2 (nth [int i64 0,int i64 2]))) hp g)/\2<=2/\(∀(hp:List AObj) (g:R.σ),true=true/\Does Tryd.prog R 18 [av p] hp g (ret (AV.bool false)) hp g)/\(true=true->(true=true->true=true/\Does Tryd.prog R 15 [] u1 g (ret (AV.bool true)) u1 g)/\Q AEx.ret (St.mk [(4,AV.bool true)] u1 g))/\(true=false->WpC Tryd.prog R 59 0 4 [1,1,1,0,1,1] Q [Kont.seq [1,1,1,1]] (St.mk [(1,au l),(2,ref 0 0),(5,int i64 0),(6,int i64 2),(25,AV.bool true)] u1 g)))) ([cells false 2 (nth [int i64 p.atoms,af p.rules])])) ⟨omg,(fun _ _=>⟨rfl,(dG hsm (jC _ _ _ _))⟩),(fun hgd=>(fun _ _=>⟨rfl,(dG hst (j8 _ _ _ _))⟩)),fun h=>(nomatch h),fun _=>⟨omg,(fun _ _=>⟨rfl,(hV _ _ _)⟩),omg,(fun _ _=>⟨rfl,(dG hb (np _ _ _ _ omg))⟩),fun _=>⟨(fun hgd=>⟨rfl,(doT (T:=LT) [] 1 (fun R _ g=>j7 R g))⟩),?_⟩,fun h=>(nomatch h)⟩⟩
    refine(aq (bl _ _ rfl trivial trivial rfl) (zT _))
   |true=>
    obtain⟨hl,hr,hp,hh,hx⟩:=ff hb
    have hp':1<=p.atoms/\p.atoms<=24:=hp
    have hrn:=y7 hb
    have hV:=fun (R:Res) [Tab LT R] (g:R.σ)=>zz R p l hb omg hat g
    have hW:=fun (R:Res) (g:R.σ)=>yG R p p.atoms.toNat l omg omg hl hrn omg hat g
    rw[sI (p:=p) (n:=p.atoms.toNat) omg omg hr hrn zF] at hW
    obtain⟨w,hw⟩:∃w,eL p l.l (fun _=>3) 0=w:=⟨_,rfl⟩
    simp only[hw] at hV hW
    by_cases h0:0<=w
    ·simp only[if_pos h0] at hV
     have hwc:decide (w<0)=false:=decide_eq_false omg
     refine vcR [[1,0,1,0],[1,1,1,0,1,0],[1,1,1,1,1,0,1,0]] (lkL [(0,[1,2]),(1,[1,2,15]),(3,[1,2,5,6]),(4,[1,2,5,6,25]),(6,[5,6,7]),(7,[5,6,7,39]),(9,[4])]) (lkL [(1,[(1,ROrc.pcall (AV.bool true)),(5,ROrc.pcall (AV.bool true))]),(3,[(2,ROrc.kcall (tup 2 (nth [int i64 w,int i64 7])))]),(4,[(1,ROrc.pcall (AV.bool true))]),(6,[(2,ROrc.kcall (int i64 w))]),(9,[(8,ROrc.kcall (AV.bool true))])]) (fun Q=>(fun (u1:List AObj)=>2<=2/\(∀(hp:List AObj) (g:R.σ),true=true/\Does Tryd.prog R 14 [av p] hp g (ret (AV.bool true)) hp g)/\(true=true->∀(hp:List AObj) (g:R.σ),true=true/\Does Tryd.prog R 22 [au l] hp g (ret (AV.bool true)) hp g)/\(false=true->WpC Tryd.prog R 59 0 4 [1,0,1,0] Q [Kont.seq [1,1]] (St.mk [(1,au l),(2,ref 0 0),(15,AV.bool false)] u1 g))/\(false=false->2<=2/\(true=true/\Does Tryd.prog R 23 [av p,au l] u1 g (ret (tup 2 (nth [int i64 w,int i64 7]))) u1 g)/\2<=2/\(∀(hp:List AObj) (g:R.σ),true=true/\Does Tryd.prog R 18 [av p] hp g (ret (AV.bool true)) hp g)/\(false=true->WpC Tryd.prog R 59 0 4 [1,1,1,0,1,0] Q [Kont.seq [1,1,1,1]] (St.mk [(1,au l),(2,ref 0 0),(5,int i64 w),(6,int i64 7),(25,AV.bool false)] u1 g))/\(false=false->2<=2/\(true=true/\Does Tryd.prog R 24 [av p,au l] u1 g (ret (int i64 w)) u1 g)/\(decide (w<0)=true->WpC Tryd.prog R 59 0 4 [1,1,1,1,1,0,1,0] Q [Kont.seq [1,1,1,1,1,1]] (St.mk [(5,int i64 w),(6,int i64 7),(7,int i64 w),(39,AV.bool (decide (w<0)))] u1 g))/\(decide (w<0)=false->((bif true then w==w else false)=true->true=true/\Does Tryd.prog R 15 [] u1 g (ret (AV.bool true)) u1 g)/\Q AEx.ret (St.mk [(4,AV.bool (bif bif true then w==w else false then true else false))] u1 g))))) ([cells false 2 (nth [int i64 p.atoms,af p.rules])])) ⟨omg,(fun _ _=>⟨rfl,(dG hsm (jC _ _ _ _))⟩),(fun hgd=>(fun _ _=>⟨rfl,(dG hst (j8 _ _ _ _))⟩)),fun h=>(nomatch h),fun _=>⟨omg,⟨rfl,(doT (T:=LT) [] 1 (fun R _ g=>hV R g))⟩,omg,(fun _ _=>⟨rfl,(dG hb (np _ _ _ _ omg))⟩),fun h=>(nomatch h),fun _=>⟨omg,⟨rfl,(doT (T:=LT) [] 1 (fun R _ g=>hW R g))⟩,fun hcc=>(nomatch (hwc.symm.trans hcc)),fun _=>⟨(fun hgd=>⟨rfl,(doT (T:=LT) [] 1 (fun R _ g=>j7 R g))⟩),?_⟩⟩⟩⟩
     refine(aq (bl _ _ rfl trivial trivial rfl) (zU ?_))
     show(AV.bool (bif bif true then w==w else false then true else false))=_
     simp
    ·simp only[if_neg h0] at hV
     have hwc:decide (w<0)=true:=decide_eq_true omg
     refine vcR [[1,0,1,0],[1,1,1,0,1,0],[1,1,1,1,1,0,1,1]] (lkL [(0,[1,2]),(1,[1,2,15]),(3,[1,2,5,6]),(4,[1,2,5,6,25]),(6,[5,6,7]),(7,[5,6,7,39]),(8,[4])]) (lkL [(1,[(1,ROrc.pcall (AV.bool true)),(5,ROrc.pcall (AV.bool true))]),(3,[(2,ROrc.kcall (tup 2 (nth [int i64 0,int i64 0])))]),(4,[(1,ROrc.pcall (AV.bool true))]),(6,[(2,ROrc.kcall (int i64 w))]),(8,[(7,ROrc.kcall (AV.bool true))])]) (fun Q=>(fun (u1:List AObj)=>2<=2/\(∀(hp:List AObj) (g:R.σ),true=true/\Does Tryd.prog R 14 [av p] hp g (ret (AV.bool true)) hp g)/\(true=true->∀(hp:List AObj) (g:R.σ),true=true/\Does Tryd.prog R 22 [au l] hp g (ret (AV.bool true)) hp g)/\(false=true->WpC Tryd.prog R 59 0 4 [1,0,1,0] Q [Kont.seq [1,1]] (St.mk [(1,au l),(2,ref 0 0),(15,AV.bool false)] u1 g))/\(false=false->2<=2/\(true=true/\Does Tryd.prog R 23 [av p,au l] u1 g (ret (tup 2 (nth [int i64 0,int i64 0]))) u1 g)/\2<=2/\(∀(hp:List AObj) (g:R.σ),true=true/\Does Tryd.prog R 18 [av p] hp g (ret (AV.bool true)) hp g)/\(false=true->WpC Tryd.prog R 59 0 4 [1,1,1,0,1,0] Q [Kont.seq [1,1,1,1]] (St.mk [(1,au l),(2,ref 0 0),(5,int i64 0),(6,int i64 0),(25,AV.bool false)] u1 g))/\(false=false->2<=2/\(true=true/\Does Tryd.prog R 24 [av p,au l] u1 g (ret (int i64 w)) u1 g)/\(decide (w<0)=true->(true=true->true=true/\Does Tryd.prog R 15 [] u1 g (ret (AV.bool true)) u1 g)/\Q AEx.ret (St.mk [(4,AV.bool true)] u1 g))/\(decide (w<0)=false->WpC Tryd.prog R 59 0 4 [1,1,1,1,1,0,1,1] Q [Kont.seq [1,1,1,1,1,1]] (St.mk [(5,int i64 0),(6,int i64 0),(7,int i64 w),(39,AV.bool (decide (w<0)))] u1 g))))) ([cells false 2 (nth [int i64 p.atoms,af p.rules])])) ⟨omg,(fun _ _=>⟨rfl,(dG hsm (jC _ _ _ _))⟩),(fun hgd=>(fun _ _=>⟨rfl,(dG hst (j8 _ _ _ _))⟩)),fun h=>(nomatch h),fun _=>⟨omg,⟨rfl,(doT (T:=LT) [] 1 (fun R _ g=>hV R g))⟩,omg,(fun _ _=>⟨rfl,(dG hb (np _ _ _ _ omg))⟩),fun h=>(nomatch h),fun _=>⟨omg,⟨rfl,(doT (T:=LT) [] 1 (fun R _ g=>hW R g))⟩,fun _=>⟨(fun hgd=>⟨rfl,(doT (T:=LT) [] 1 (fun R _ g=>j7 R g))⟩),?_⟩,fun hcc=>(nomatch (hwc.symm.trans hcc))⟩⟩⟩
     refine(aq (bl _ _ rfl trivial trivial rfl) (zT _))
end Go.Avm.Pack
namespace Go.Proofs.YtbdagmhndndliaaDoor
open Go Go.Avm Go.Avm.Pack Go.WideShapes Go.ChangeShapes Go.ChangeAt
def zL (cs:Array Value):Obj->Obj
 |.cells _ t frozen=>.cells cs t frozen
 |o=>o
noncomputable def ox (os:Os):World:=
 { World.holding Tryd.prog os ⟨#[],#[],[]⟩ with heap:=(World.holding Tryd.prog os ⟨#[],#[],[]⟩).heap.modify 0 (zL #[.int .u8 0,.int .u8 1,.int .u8 56,.int .u8 2,.int .u8 57,.int .u8 49,.int .u8 28,.int .u8 3,.int .u8 61,.int .u8 58,.int .u8 42,.int .u8 50,.int .u8 38,.int .u8 29,.int .u8 17,.int .u8 4,.int .u8 62,.int .u8 47,.int .u8 59,.int .u8 36,.int .u8 45,.int .u8 43,.int .u8 51,.int .u8 22,.int .u8 53,.int .u8 39,.int .u8 33,.int .u8 30,.int .u8 24,.int .u8 18,.int .u8 12,.int .u8 5,.int .u8 63,.int .u8 55,.int .u8 48,.int .u8 27,.int .u8 60,.int .u8 41,.int .u8 37,.int .u8 16,.int .u8 46,.int .u8 35,.int .u8 44,.int .u8 21,.int .u8 52,.int .u8 32,.int .u8 23,.int .u8 11,.int .u8 54,.int .u8 26,.int .u8 40,.int .u8 15,.int .u8 34,.int .u8 20,.int .u8 31,.int .u8 10,.int .u8 25,.int .u8 14,.int .u8 19,.int .u8 9,.int .u8 13,.int .u8 8,.int .u8 7,.int .u8 6]) }
theorem zM (os:Os):laidMet Tryd.prog Rows.tableVerifiesRow.laid ((ox os).forCall (fun _ _=>0) ⟨#[],#[.agg #[.int .i64 0,.slice none 0 0],.slice none 0 0],[]⟩).memory:=
 laidMet_of_run' 8 (by kernel_rfl) (by kernel_rfl)
theorem zN (os:Os){H:Type}(enc:TypeId × Value->H):∃places,DataW.whole enc Tryd.prog ((ox os).forCall (fun _ _=>0) ⟨#[],#[.agg #[.int .i64 0,.slice none 0 0],.slice none 0 0],[]⟩).memory Tryd.f4.params.toList Rows.tableVerifiesSpec.vars false (#[.agg #[.int .i64 0,.slice none 0 0],.slice none 0 0]:Array Value).toList 8=some ([.agg [.lit (.int .i64 0),.nil],.nil],[],places):=
 ⟨[],by kernel_rfl⟩
theorem zO (W:World)(h:laidMetH Tryd.prog Rows.tableVerifiesRow.laid W):cJ gsT (de W):=by
 have h:laidMet Tryd.prog [("math/bits.deBruijn64tab",Lib.tabData .u8 gE)] W:=h
 exact vp (t:=164) (e:=5) (n:=64) (by kernel_rfl) (by kernel_rfl) Tryd.underlying164 Tryd.underlying5 (by kernel_rfl) (by kernel_rfl) h (fun _=>vo)
set_option maxRecDepth 100000 in
theorem zP (os:Os)(started:os.Started)(H:Type)(enc:TypeId × Value->H)(F:Stop.Interp) :
  ReturnsInHanded {} Tryd.checked os 4 .any ((OpenSpec.ofChange Rows.tableVerifiesSpec).preRow enc Tryd.prog Tryd.f4 Rows.tableVerifiesRow.domain Rows.tableVerifiesRow.apart Rows.tableVerifiesRow.laid) (((OpenSpec.ofChange Rows.tableVerifiesSpec).at F).post enc Tryd.prog Tryd.f4 Rows.tableVerifiesRow.apart Rows.tableVerifiesRow.fresh Rows.tableVerifiesRow.handsOn Rows.tableVerifiesRow.again):=by
 obtain⟨places,hx⟩:=zN os enc
 exact vq (C:=Tryd.checked) (s:=Rows.tableVerifiesSpec) (tb:=4) (gs:=gsT) (X:=fun l=>∃a:Prg,True/\∃l',(∃b:KL Step,True/\∃l'',(l''=[])/\l'=au b::l'')/\l=av a::l') (by kernel_rfl) started (by kernel_rfl) Tryd.func4
  (witness_row_at (enc:=enc) (C:=Tryd.checked) false (ox os) #[.agg #[.int .i64 0,.slice none 0 0],.slice none 0 0] rfl (by kernel_rfl) (by kernel_rfl) (by kernel_rfl)
   (OpenSpec.preRow_of_cond 8 hx (by kernel_rfl) (fun k hk=>by cases hk) (by kernel_rfl) (zM os)))
  rfl (fun ds h=>by
   match ds,h with
   |[_,_],_=>rfl) (by kernel_rfl)
  (fun t ht=>by
   have ht:t∈([24,29]:List Nat):=ht
   simp only[List.mem_cons,List.not_mem_nil,or_false] at ht
   rcases ht with rfl|rfl <;> exact⟨by kernel_rfl,of_decide_eq_true (by kernel_rfl)⟩) rfl Tryd.underlying4 zO
  ((qc zn (qc zJ vi)))
  (fun avs ⟨a,ha,_,⟨b,hb,_,e0,e1⟩,e2⟩=>by
   subst e0 e1 e2
   exact zK (Res.tab gsT) a b ())
theorem zQ:Rows.TableVerifiesSaid:=
 OpenClaim.holds_of_cond 4 Tryd.f4 rfl rfl rfl rfl rfl rfl rfl ⟨rfl,rfl,rfl,rfl,rfl⟩ rfl rfl rfl rfl rfl (by kernel_rfl) Tryd.func4 (by kernel_rfl)
  (of_decide_eq_true (by kernel_rfl)) (by unfold Func.isWrapper;first|(rw[if_pos (by decide +kernel)];kernel_rfl)|(rw[if_neg (by decide +kernel)];exact⟨rfl,rfl⟩))
  (fun os started H enc _ F=>by rw[OpenClaim.pre_eq_preRow];exact zP os started H enc F)
theorem zR (f:FuncId)(fn:Func)(hf:Tryd.pinned.checked.prog.funcNamed "swingle/swinglelaw18.TableVerifies"=some f)(hfn:Tryd.pinned.checked.prog.funcs[f]? = some fn) :
  true=Tryd.pinned.checked.prog.looks []/\∀(j:Nat) t,fn.params[j]? = some t->Tryd.pinned.checked.prog.wantsStandIn t=false:=by
 obtain rfl:f=4:=Option.some.inj ((show Tryd.prog.funcNamed "swingle/swinglelaw18.TableVerifies"=some 4 by kernel_rfl).symm.trans hf) |>.symm
 obtain rfl:fn=Tryd.f4:=(Option.some.inj (Tryd.func4.symm.trans hfn)).symm
 refine⟨by kernel_rfl,fun j t ht=>?_⟩
 have hm:t∈(Tryd.f4.params).toList:=Array.mem_toList_iff.2 (Array.mem_of_getElem? ht)
 have hm:t∈([24,29]:List Nat):=hm
 simp only[List.mem_cons,List.not_mem_nil,or_false] at hm
 rcases hm with rfl|rfl
 ·exact(show Tryd.prog.wantsStandIn 24=false by kernel_rfl)
 ·exact(show Tryd.prog.wantsStandIn 29=false by kernel_rfl)
theorem tableVerifies_holds:Rows.TableVerifiesCardSaid:=
 Claim7.holds_tied_plain_at .later [] _ _ _ _ zQ (fun _ h=>by cases h) (by kernel_rfl) (fun _ h=>by cases h) tableVerifies_row_tie rfl ⟨rfl,rfl⟩ (by kernel_rfl) rfl zR (by kernel_rfl)
#print axioms tableVerifies_holds
end Go.Proofs.YtbdagmhndndliaaDoor
