/- TableComponents returns true, and leaves its arguments as they were. No conditions: every input that can be read as data. -/
import Derived.Test.YtbdagmhndndliaaDoorM5
namespace Go.Avm.Pack
open Go Go.Avm Go.Proofs
open Go.IntKind (i64 u64)
open Go.Avm.AV (int bool any fz fp sl ow ref fn ifc val agg tup)
open Go.Avm.AObj (cells dead)
open Go.Avm.Oc (ret)
set_option maxRecDepth 4000
def eqZ (c:Int):Int->Bool:=fun v=>c==v
theorem xG (R:Res)(l:KL Int)(c:Int)(hp:List AObj)(g:R.σ)(hl:l.l.length<1000000):Does Tryd.prog R 89 [ak l,.int .i64 c] hp g (.ret (.int .i64 (aI (eqZ c) l.l 0))) hp g:=by
 refine bt (fun R g=>?_) (by exact⟨trivial,trivial,trivial⟩) R hp g
 refine ax (nt:=19) (rs:=[.tmp 4]) (k0:=0) (by kernel_rfl) (by kernel_rfl) (by kernel_rfl) rfl ?_
 refine vcQ [] (lkL [(0,[0,1]),(1,[0,1,7,8])]) (fun _=>[]) (fun Q=>Wp Tryd.prog R 19 0 Rd.top (ah Tryd.prog 89) [1,0,1,0] (aq Tryd.prog R 19 0 Rd.top (ah Tryd.prog 89) Q [Kont.blk 0,Kont.seq [1,1]]) (St.mk [(0,ak l),(1,int i64 c),(7,int i64 (l.l.length:Int)),(8,int i64 0)] [] g)) (fun _=>by kernel_rfl) (?_)
 refine(bb (by kernel_rfl) (fun (i:Nat)=>⟨[(0,ak l),(1,int i64 c),(7,int i64 (l.l.length:Int)),(8,.int .i64 (i:Int))],[],g⟩) (fun (i:Nat)=>(i<=l.l.length/\aI (eqZ c) l.l 0=aI (eqZ c) (l.l.drop i) i)) (fun (i:Nat)=>(l.l.length-i)) 0 (aV ⟨Le.refl _,Le.refl _,Le.refl _,(Le.of_eq (by kernel_rfl)),trivial⟩ rfl rfl) ?_ (fun i hi=>?_))
 ·exact⟨Nat.zero_le _,rfl⟩
 ·obtain⟨h1,h2⟩:=hi
  refine vcQ [] (lkL [(2,[0,1,7,8,9]),(3,[0,1,5,7,8]),(4,[0,1,5,7,8,16]),(5,[4]),(6,[0,1,7,8])]) (fun _=>[]) (fun Q=>(fun (u1:Int)=>(fun (u2:Int)=>(decide (u2<u1)=true->(0<=u2/\u2<u1)/\1<=1/\((c==l.l.getD i 0)=true->Q AEx.ret (St.mk [(4,int i64 u2)] [] g))/\((c==l.l.getD i 0)=false->(-9223372036854775808<=u2+1/\u2+1<=9223372036854775807)/\Q AEx.normal (St.mk [(0,ak l),(1,int i64 c),(7,int i64 u1),(8,int i64 (u2+1))] [] g)))/\(decide (u2<u1)=false->Q (AEx.exit 0) (St.mk [(0,ak l),(1,int i64 c),(7,int i64 u1),(8,int i64 u2),(9,AV.bool (decide (u2<u1)))] [] g))) ((i:Int))) ((l.l.length:Int))) (fun _=>by kernel_rfl) ⟨fun c1=>have c1:(i:Int)<(l.l.length:Int):=(of_decide_eq_true c1);⟨by omega,by omega,fun c2=>have c2:c=l.l.getD i 0:=(beq_iff_eq.mp c2);?_,fun c2=>have c2:¬c=l.l.getD i 0:=(beq_eq_false_iff_ne.mp c2);⟨by omega,?_⟩⟩,fun c1=>have c1:¬(i:Int)<(l.l.length:Int):=(of_decide_eq_false c1);?_⟩
  ·have c2:eqZ c (l.l.getD i 0)=true:=beq_iff_eq.2 c2
   refine⟨_,To.refl _,(av (aS _ _ rfl trivial rfl rfl rfl) (Le.of_eq ?_))⟩
   show(int i64 (↑i:Int))=_
   congr 1
   rw[h2,fx l.l 0 (by omega)];unfold aI;rw[if_pos c2]
  ·have c2:eqZ c (l.l.getD i 0)=false:=beq_eq_false_iff_ne.2 c2
   refine(aX (i+1) (aV ⟨Le.refl _,Le.refl _,Le.refl _,(Le.of_eq (by kernel_rfl)),trivial⟩ rfl rfl) ?_ ?_)
   ·refine⟨by omega,?_⟩
    rw[h2,fx l.l 0 (by omega)];conv=>lhs;unfold aI
    rw[c2];rfl
   ·omega
  ·refine⟨_,To.refl _,vcQ [] (lkL [(7,[4])]) (fun _=>[]) (fun Q=>Q AEx.ret (St.mk [(4,int i64 (-1))] [] g)) (fun _=>by kernel_rfl) (?_)⟩
   refine(av (aS _ _ rfl trivial rfl rfl rfl) (Le.of_eq ?_))
   show(int i64 (-1))=_
   congr 1
   rw[h2,List.drop_eq_nil_of_le (by omega)];rfl
theorem xH (R:Res)(l:KL Int)(c:Int)(hp:List AObj)(g:R.σ)(hl:l.l.length<1000000):Does Tryd.prog R 43 [ak l,.int .i64 c] hp g (.ret (.bool (l.l.any (eqZ c)))) hp g:=by
 refine bt (fun R g=>?_) (by exact⟨trivial,trivial,trivial⟩) R hp g
 refine ax (nt:=9) (rs:=[.tmp 4]) (k0:=0) (by kernel_rfl) (by kernel_rfl) (by kernel_rfl) rfl ?_
 refine vcQ [] (lkL [(0,[0,1]),(1,[4])]) (lkL [(1,[(2,ROrc.pcall (int i64 (aI (eqZ c) l.l 0)))])]) (fun Q=>(∀(hp:List AObj) (g:R.σ),true=true/\Does Tryd.prog R 89 [ak l,int i64 c] hp g (ret (int i64 (aI (eqZ c) l.l 0))) hp g)/\Q AEx.ret (St.mk [(4,AV.bool (decide (aI (eqZ c) l.l 0 >= 0)))] [] g)) (fun _=>by kernel_rfl) ⟨(fun _ _=>⟨rfl,(xG _ _ _ _ _ (by omega))⟩),?_⟩
 refine(av (aS _ _ rfl trivial rfl rfl rfl) (Le.of_eq ?_))
 show(AV.bool (decide (aI (eqZ c) l.l 0 >= 0)))=_
 congr 1
 exact mw _ _ _
theorem rk (R:Res)(v:Int)(hp:List AObj)(g:R.σ):Does Tryd.prog R 111 [.int .i64 v] hp g (.ret (.bool false)) hp g:=by
 refine bt (fun R g=>?_) (by exact⟨trivial,trivial⟩) R hp g
 refine ax (nt:=6) (rs:=[.tmp 2]) (k0:=0) (by kernel_rfl) (by kernel_rfl) (by kernel_rfl) rfl ?_
 refine vcQ [] (lkL [(0,[0]),(1,[2])]) (fun _=>[]) (fun Q=>Q AEx.ret (St.mk [(2,AV.bool (v != v))] [] g)) (fun _=>by kernel_rfl) (?_)
 refine(av (aS _ _ rfl trivial rfl rfl rfl) (Le.of_eq ?_))
 show(AV.bool (v != v))=_
 show AV.bool _=AV.bool _
 simp
theorem xI (R:Res)(a b:Int)(hp:List AObj)(g:R.σ):Does Tryd.prog R 95 [.int .i64 a,.int .i64 b] hp g (.ret (.bool (decide (a<b)))) hp g:=by
 refine bt (fun R g=>?_) (by exact⟨trivial,trivial,trivial⟩) R hp g
 refine ax (nt:=17) (rs:=[.tmp 4]) (k0:=0) (by kernel_rfl) (by kernel_rfl) (by kernel_rfl) rfl ?_
 refine vcQ [] (lkL [(0,[0,1]),(1,[4])]) (lkL [(1,[(1,ROrc.pcall (AV.bool false)),(4,ROrc.pcall (AV.bool false))])]) (fun Q=>(∀(hp:List AObj) (g:R.σ),true=true/\Does Tryd.prog R 111 [int i64 a] hp g (ret (AV.bool false)) hp g)/\(false=true->∀(hp:List AObj) (g:R.σ),true=true/\Does Tryd.prog R 111 [int i64 b] hp g (ret (AV.bool false)) hp g)/\Q AEx.ret (St.mk [(4,AV.bool (bif false then true else decide (a<b)))] [] g)) (fun _=>by kernel_rfl) ⟨(fun _ _=>⟨rfl,(rk _ _ _ _)⟩),(fun hgd=>(fun _ _=>⟨rfl,(rk _ _ _ _)⟩)),?_⟩
 refine(av (aS _ _ rfl trivial rfl rfl rfl) (Le.of_eq (by kernel_rfl)))
def gq (l:List Int):Bool:=(List.range (l.length-1)).all fun i=> !decide (l.getD (i+1) 0<l.getD i 0)
theorem rl (R:Res)(l:KL Int)(hp:List AObj)(g:R.σ)(hl:l.l.length<1000000):Does Tryd.prog R 56 [ak l] hp g (.ret (.bool (gq l.l))) hp g:=by
 refine bt (fun R g=>?_) (by exact⟨trivial,trivial⟩) R hp g
 refine ax (nt:=21) (rs:=[.tmp 2]) (k0:=0) (by kernel_rfl) (by kernel_rfl) (by kernel_rfl) rfl ?_
 refine vcQ [] (lkL [(0,[0]),(1,[0,3])]) (fun _=>[]) (fun Q=>(fun (u1:Int)=>(-9223372036854775808<=u1/\u1<=9223372036854775807)/\Wp Tryd.prog R 21 0 Rd.top (ah Tryd.prog 56) [1,0,1,0] (aq Tryd.prog R 21 0 Rd.top (ah Tryd.prog 56) Q [Kont.blk 0,Kont.seq [1,1]]) (St.mk [(0,ak l),(3,int i64 u1)] [] g)) ((l.l.length:Int)-1)) (fun _=>by kernel_rfl) ⟨by omega,?_⟩
 refine(bb (by kernel_rfl) (fun (i:Nat)=>⟨[(0,ak l),(3,.int .i64 ((l.l.length:Int)-1-i))],[],g⟩) (fun (i:Nat)=>(i<=l.l.length-1/\∀j,j<i->¬(l.l.getD (l.l.length-1-j) 0<l.l.getD (l.l.length-1-j-1) 0))) (fun (i:Nat)=>(l.l.length-1-i)) 0 (aV ⟨Le.refl _,(Le.of_eq ?_),trivial⟩ rfl rfl) ?_ (fun i hi=>?_))
 ·show AV.int .i64 _=AV.int .i64 _
  congr 1
  omega
 ·exact⟨Nat.zero_le _,fun j hj=>by omega⟩
 ·obtain⟨h1,h2⟩:=hi
  refine vcQ [] (lkL [(2,[0,3,8]),(4,[0,3,20]),(5,[2]),(3,[0,3])]) (lkL [(4,[(9,ROrc.pcall (AV.bool (decide (l.l.getD (((l.l.length:Int)-1-(i:Int)).toNat) 0<l.l.getD (((l.l.length:Int)-1-(i:Int)-1).toNat) 0))))])]) (fun Q=>(fun (u1:Int)=>(fun (u2:Int)=>(fun (u3:Int)=>(decide (u1 > 0)=true->Tables.follows Tryd.prog.toTables Departure.mixedOrders=true/\(0<=u1/\u1<(l.l.length:Int))/\1<=1/\(-9223372036854775808<=u1-1/\u1-1<=9223372036854775807)/\(0<=u1-1/\u1-1<(l.l.length:Int))/\1<=1/\(∀(hp:List AObj) (g:R.σ),true=true/\Does Tryd.prog R 95 [int i64 u3,int i64 u2] hp g (ret (AV.bool (decide (u3<u2)))) hp g)/\(decide (u3<u2)=true->Q AEx.ret (St.mk [(2,AV.bool false)] [] g))/\(decide (u3<u2)=false->(-9223372036854775808<=u1-1/\u1-1<=9223372036854775807)/\Q AEx.normal (St.mk [(0,ak l),(3,int i64 (u1-1))] [] g)))/\(decide (u1 > 0)=false->Q (AEx.exit 0) (St.mk [(0,ak l),(3,int i64 u1),(8,AV.bool (decide (u1 > 0)))] [] g))) (l.l.getD (u1.toNat) 0)) (l.l.getD ((u1-1).toNat) 0)) ((l.l.length:Int)-1-(i:Int))) (fun _=>by kernel_rfl) ⟨fun c1=>have c1:(l.l.length:Int)-1-(i:Int) > 0:=(of_decide_eq_true c1);⟨by kernel_rfl,by omega,by omega,by omega,by omega,by omega,(fun _ _=>⟨rfl,(xI _ _ _ _ _)⟩),fun c2=>have c2:l.l.getD (((l.l.length:Int)-1-(i:Int)).toNat) 0<l.l.getD (((l.l.length:Int)-1-(i:Int)-1).toNat) 0:=(of_decide_eq_true c2);?_,fun c2=>have c2:¬l.l.getD (((l.l.length:Int)-1-(i:Int)).toNat) 0<l.l.getD (((l.l.length:Int)-1-(i:Int)-1).toNat) 0:=(of_decide_eq_false c2);⟨by omega,?_⟩⟩,fun c1=>have c1:¬(l.l.length:Int)-1-(i:Int) > 0:=(of_decide_eq_false c1);?_⟩
  ·have e1:((l.l.length:Int)-1-i).toNat=l.l.length-1-i:=by omega
   have e2:((l.l.length:Int)-1-i-1).toNat=l.l.length-1-i-1:=by omega
   rw[e1,e2] at c2
   have:gq l.l=false:=by
    unfold gq
    rw[List.all_eq_false]
    refine⟨l.l.length-1-i-1,by rw[List.mem_range];omega,?_⟩
    rw[show l.l.length-1-i-1+1=l.l.length-1-i by omega,decide_eq_true c2]
    simp
   rw[this]
   refine⟨_,To.refl _,(av (aS _ _ rfl trivial rfl rfl rfl) (Le.refl _))⟩
  ·have e1:((l.l.length:Int)-1-i).toNat=l.l.length-1-i:=by omega
   have e2:((l.l.length:Int)-1-i-1).toNat=l.l.length-1-i-1:=by omega
   rw[e1,e2] at c2
   refine(aX (i+1) (aV ⟨Le.refl _,(Le.of_eq ?_),trivial⟩ rfl rfl) ?_ ?_)
   ·show AV.int .i64 _=AV.int .i64 _
    congr 1
    omega
   ·refine⟨by omega,fun j hj=>?_⟩
    rcases Nat.lt_or_ge j i with h|h
    ·exact h2 j h
    ·have:j=i:=by omega
     subst this;exact c2
   ·omega
  ·have:gq l.l=true:=by
    unfold gq
    rw[List.all_eq_true]
    intro k hk
    have hk:=List.mem_range.1 hk
    have:=h2 (l.l.length-1-(k+1)) (by omega)
    rw[show l.l.length-1-(l.l.length-1-(k+1))=k+1 by omega,show k+1-1=k by omega] at this
    rw[decide_eq_false this]
    rfl
   rw[this]
   refine⟨_,To.refl _,vcQ [] (lkL [(6,[2])]) (fun _=>[]) (fun Q=>Q AEx.ret (St.mk [(2,AV.bool true)] [] g)) (fun _=>by kernel_rfl) (?_)⟩
   refine(av (aS _ _ rfl trivial rfl rfl rfl) (Le.refl _))
theorem rm {E F:Nat->Int}(h:((List.range 25).all fun n=>decide (E n=F n))=true){n:Nat}(hn:n<25):E n=F n:=
 of_decide_eq_true (List.all_eq_true.1 h n (List.mem_range.2 hn))
theorem rn {n:Nat}(h:n<25):n=0∨n=1∨n=2∨n=3∨n=4∨n=5∨n=6∨n=7∨n=8∨n=9∨n=10∨n=11∨n=12∨n=13∨n=14∨n=15∨n=16∨n=17∨n=18∨n=19∨n=20∨n=21∨n=22∨n=23∨n=24:=by omega
theorem xJ (R:Res)(n:Nat)(hn:n<25)(g:R.σ):Does Tryd.prog R 110 [.int .u64 1,.int .u64 n] [] g (.ret (.tup 2 (nth [.int .u64 0,.int .u64 n]))) [] g:=by
 refine ax (nt:=51) (rs:=[.tmp 4,.tmp 5]) (k0:=0) (by kernel_rfl) (by kernel_rfl) (by kernel_rfl) rfl ?_
 refine vcQ [] (lkL [(0,[0,1]),(1,[0,1,6]),(2,[0,1,6,7]),(3,[0,1,6,7,8]),(4,[0,1,6,7,8,9]),(5,[0,1,6,7,8,9,10]),(6,[0,1,6,7,9,11]),(7,[0,1,6,7,9,11,12]),(8,[0,1,6,7,9,12,13]),(9,[0,1,7,9,12,13]),(10,[0,1,4]),(11,[4,5])]) (fun _=>[]) (fun Q=>(fun (u1:Int)=>(↑0:Int)<=32/\(↑0:Int)<=32/\(↑0:Int)<=32/\(↑0:Int)<=32/\(↑0:Int)<=32/\Q AEx.ret (St.mk [(4,int u64 (IntKind.wrap u64 (IntKind.wrap u64 (IntKind.wrap u64 (Int.fdiv 1 (2^32)*Int.fdiv (n:Int) (2^32))+Int.fdiv u1 (2^32))+Int.fdiv (IntKind.wrap u64 (IntKind.wrap u64 (↑(BitVec.toNat (BitVec.ofInt 64 u1&&&BitVec.ofInt 64 4294967295)):Int)+IntKind.wrap u64 (IntKind.wrap u64 (↑1:Int)*Int.fdiv (n:Int) (2^32)))) (2^32)))),(5,int u64 (IntKind.wrap u64 (1*(n:Int))))] [] g)) (IntKind.wrap u64 (IntKind.wrap u64 (Int.fdiv 1 (2^32)*IntKind.wrap u64 (↑(BitVec.toNat (BitVec.ofInt 64 (n:Int)&&&BitVec.ofInt 64 4294967295)):Int))+Int.fdiv (IntKind.wrap u64 (IntKind.wrap u64 (↑1:Int)*IntKind.wrap u64 (↑(BitVec.toNat (BitVec.ofInt 64 (n:Int)&&&BitVec.ofInt 64 4294967295)):Int))) (2^32)))) (fun _=>by kernel_rfl) ⟨by omega,by omega,by omega,by omega,by omega,?_⟩
 refine(av (aS _ _ rfl trivial rfl rfl rfl) (Le.tup (fun j hj=>match j,hj with|0,_=>(Le.of_eq ?_)|1,_=>(Le.of_eq ?_) )))
 ·show AV.int .u64 _=AV.int .u64 0
  congr 1
  rcases rn hn with rfl|rfl|rfl|rfl|rfl|rfl|rfl|rfl|rfl|rfl|rfl|rfl|rfl|rfl|rfl|rfl|rfl|rfl|rfl|rfl|rfl|rfl|rfl|rfl|rfl <;> decide +kernel
 ·show AV.int .u64 _=AV.int .u64 (n:Int)
  congr 1
  rcases rn hn with rfl|rfl|rfl|rfl|rfl|rfl|rfl|rfl|rfl|rfl|rfl|rfl|rfl|rfl|rfl|rfl|rfl|rfl|rfl|rfl|rfl|rfl|rfl|rfl|rfl <;> decide +kernel
theorem xK (R:Res)(n:Nat)(hn:n<25)(hp:List AObj)(g:R.σ):Does Tryd.prog R 93 [.int .u64 1,.int .u64 n] hp g (.ret (.tup 2 (nth [.int .u64 0,.int .u64 n]))) hp g:=by
 refine bt (fun R g=>?_) (by exact⟨trivial,trivial,trivial⟩) R hp g
 refine ax (nt:=30) (rs:=[.tmp 4,.tmp 5]) (k0:=0) (by kernel_rfl) (by kernel_rfl) (by kernel_rfl) rfl ?_
 refine vcQ [] (lkL [(0,[0,1])]) (fun _=>[]) (fun Q=>Wp Tryd.prog R 30 0 Rd.top (ah Tryd.prog 93) [1,0] (aq Tryd.prog R 30 0 Rd.top (ah Tryd.prog 93) Q [Kont.seq [1,1]]) (St.mk [(0,int u64 1),(1,int u64 (n:Int))] [] g)) (fun _=>by kernel_rfl) (?_)
 refine ud false (by kernel_rfl) ?_
 show Wp _ _ _ _ _ _ [1,0,1] _ _
 refine vcQ [] (lkL []) (fun _=>[]) (fun Q=>Q AEx.normal (St.mk [(0,int u64 1),(1,int u64 (n:Int))] [] g)) (fun _=>by kernel_rfl) (?_)
 refine vcQ [] (lkL [(3,[8,9]),(4,[4,5])]) (lkL [(3,[(2,ROrc.kcall (tup 2 (nth [int u64 0,int u64 (n:Int)])))])]) (fun Q=>(true=true/\Does Tryd.prog R 110 [int u64 1,int u64 (n:Int)] [] g (ret (tup 2 (nth [int u64 0,int u64 (n:Int)]))) [] g)/\Q AEx.ret (St.mk [(4,int u64 0),(5,int u64 (n:Int))] [] g)) (fun _=>by kernel_rfl) ⟨⟨rfl,(xJ _ _ (by omega) _)⟩,?_⟩
 refine(av (aS _ _ rfl trivial rfl rfl rfl) (Le.refl _))
def eh (x:Int)(m:Nat):Nat->AV:=fun c=>.int .i64 (if c<m then x else 0)
theorem xL {n:Nat}(hn:n<25):AV.int .u64 (IntKind.u64.wrap (n:Int))=.int .u64 n:=congrArg (AV.int .u64) (rm (E:=fun n=>IntKind.u64.wrap (n:Int)) (F:=fun n=>n) (by decide +kernel) hn)
theorem xM {n:Nat}(hn:n<25):AV.int .i64 (IntKind.i64.wrap (n:Int))=.int .i64 n:=congrArg (AV.int .i64) (rm (E:=fun n=>IntKind.i64.wrap (n:Int)) (F:=fun n=>n) (by decide +kernel) hn)
theorem xN (R:Res)(x:Int)(l:KL Int)(n:Nat)(h0:0<n)(hn:n<25)(hl:l=⟨[x],.exa⟩)(g:R.σ):Does Tryd.prog R 55 [ak l,.int .i64 n] [] g (.ret (.sl 0 0 n n true 1)) [.cells false (n*1) (eh x n)] g:=by
 have hll:l.l.length=1:=by rw[hl];rfl
 have hroom:aN=140737488355328:=rfl
 refine ax (nt:=48) (rs:=[.tmp 4]) (k0:=0) (by kernel_rfl) (by kernel_rfl) (by kernel_rfl) rfl ?_
 refine vcQ [[1,0,1,0]] (lkL [(0,[0,1]),(1,[0,1,10]),(3,[0,5,6]),(4,[0,6,26]),(5,[0,6]),(6,[0,7]),(7,[7,8])]) (lkL [(3,[(2,ROrc.kop (int u64 1)),(4,ROrc.kop (int u64 (n:Int))),(5,ROrc.pcall (tup 2 (nth [int u64 0,int u64 (n:Int)])))]),(6,[(1,ROrc.kop (int i64 (n:Int)))]),(7,[(2,ROrc.own (int i64 (↑1:Int)) [cells false (n*1) (eh x 1)] g)])]) (fun Q=>(fun (u1:Int)=>(fun (u2:List Row)=>(fun (u3:Bool)=>(fun (u4:List (Nat × AV))=>(fun (u5:AObj)=>(false=true->Wp Tryd.prog R 48 0 Rd.top (ah Tryd.prog 55) [1,0,1,0] (aq Tryd.prog R 48 0 Rd.top (ah Tryd.prog 55) Q [Kont.seq [1,1]]) (St.mk u4 [] g))/\(false=false->OpOk Tryd.prog R (Oper.mk (some 15) (Op.convert 3 134 (Operand.tmp 14)) 134 "slices.go:520" #[Edge.mk 1 Ground.data] none) (evO u2 u4 []) [] g (int u64 1) [] g/\OpOk Tryd.prog R (Oper.mk (some 17) (Op.convert 3 134 (Operand.tmp 16)) 134 "slices.go:520" #[Edge.mk 3 Ground.data] none) (evO (Row.mk (some 16) none (int i64 u1) false (some []) []::Row.mk (some 15) none (int u64 1) true (some []) []::u2) u4 []) [] g (int u64 u1) [] g/\(∀(hp:List AObj) (g:R.σ),true=true/\Does Tryd.prog R 93 [int u64 1,int u64 u1] hp g (ret (tup 2 (nth [int u64 0,int u64 u1]))) hp g)/\(u3=true->Q (AEx.pan (ifc 9 (AV.str (ByteArray.mk #[116,104,101,32,114,101,115,117,108,116,32,111,102,32,40,108,101,110,40,120,41,32,42,32,99,111,117,110,116,41,32,111,118,101,114,102,108,111,119,115])))) (St.mk [(0,ak l),(6,int u64 u1)] [] g))/\(u3=false->OpOk Tryd.prog R (Oper.mk (some 29) (Op.convert 134 3 (Operand.tmp 28)) 3 "slices.go:525" #[Edge.mk 0 Ground.data] none) (evO [Row.mk (some 28) none (int u64 u1) false (some []) []] [(0,ak l),(6,int u64 u1),(26,AV.bool u3)] []) [] g (int i64 u1) [] g/\0<=u1/\u1<=u1/\u1<=140737488355328/\n*8<=aN/\OpOk Tryd.prog R (Oper.mk (some 33) (Op.call (Call.mk (Callee.builtin Builtin.copy) #[Operand.tmp 31,Operand.tmp 32] #[53,53])) 3 "slices.go:526" #[Edge.mk 0 Ground.data,Edge.mk 1 Ground.data] none) (evO [Row.mk (some 32) none (ak l) false (some []) [],Row.mk (some 31) none (sl 0 0 n n true 1) false (some []) []] [(0,ak l),(7,sl 0 0 n n true 1)] []) [cells false (n*1) fun (j:Nat)=>int i64 0] g (int i64 (↑1:Int)) [u5] g/\Wp Tryd.prog R 48 0 Rd.top (ah Tryd.prog 55) [1,1,1,1,1,1,0,0] (aq Tryd.prog R 48 0 Rd.top (ah Tryd.prog 55) Q [Kont.blk 0,Kont.seq [1,1,1,1,1,1,1]]) (St.mk [(7,sl 0 0 n n true 1),(8,int i64 (↑1:Int))] [u5] g)))) (cells false (n*1) fun (a:Nat)=>int i64 (if a<1 then x else 0))) ([(0,ak l),(1,int i64 u1),(10,AV.bool false)])) (bif false then true else decide (u1 > 9223372036854775807))) ([Row.mk (some 14) none (int i64 (l.l.length:Int)) false (some []) [],Row.mk (some 13) none (ak l) false (some []) []])) ((n:Int))) (fun _=>by kernel_rfl) ⟨fun h=>(nomatch h),fun _=>⟨?_,?_,(fun _ _=>⟨rfl,(xK _ _ (by omega) _ _)⟩),fun c1=>have c1:false=true∨(n:Int) > 9223372036854775807:=((fq c1).imp (fun h=>h) (fun h=>(of_decide_eq_true h)));?_,fun c1=>have c1:false=false/\¬(n:Int) > 9223372036854775807:=⟨(cI c1).1,(of_decide_eq_false (cI c1).2)⟩;⟨?_,by omega,by omega,by omega,by omega,?_,?_⟩⟩⟩
 ·exact gX (out:=⟨.int .u64 (IntKind.u64.wrap (l.l.length:Int)),[],[],.pure⟩) (by kernel_rfl) trivial (Le.of_eq (by rw[hll];kernel_rfl))
 ·exact gX (out:=⟨.int .u64 (IntKind.u64.wrap (n:Int)),[],[],.pure⟩) (by kernel_rfl) trivial (Le.of_eq (xL hn))
 ·rcases c1 with h|h
  ·cases h
  ·omega
 ·exact gX (out:=⟨.int .i64 (IntKind.i64.wrap (n:Int)),[],[],.pure⟩) (by kernel_rfl) trivial (Le.of_eq (xM hn))
 ·refine pz (t:=53) (es:=1) (N:=n*1) (n:=l.l.length) (len:=n) (ob:=0) (off:=0) (cap:=n) (ex:=true) (get0:=fun _=>.int .i64 0) (get':=eh x 1) (new:=fun i _=>.int .i64 (l.l.getD i 0)) (ob1:=[]) 1 rfl rfl rfl rfl rfl rfl (by kernel_rfl) rfl trivial (by rw[hll];omega) (by decide) (by decide) (by omega) (fun c hc=>?_)
  show AV.int .i64 (if c<1 then x else 0)=if 0<=c/\c<0+1*1 then AV.int .i64 (l.l.getD ((c-0)/1) 0) else AV.int .i64 0
  by_cases h:c<1
  ·rw[if_pos h,if_pos (by omega),show(c-0)/1=0 by omega,hl]
   rfl
  ·rw[if_neg h,if_neg (by omega)]
 ·refine(bb (by kernel_rfl) (fun (m:Nat)=>⟨[(7,sl 0 0 n n true 1),(8,.int .i64 m)],[.cells false (n*1) (eh x m)],g⟩) (fun (m:Nat)=>(0<m/\m<=n)) (fun (m:Nat)=>(n-m)) 1 (aV ⟨Le.refl _,(Le.of_eq (by kernel_rfl)),trivial⟩ rfl rfl) ?_ (fun m hi=>?_))
  ·omega
  ·obtain⟨h1,h2⟩:=hi
   obtain⟨q,hq⟩:∃q,q=min m (n-m):=⟨_,rfl⟩
   refine vcQ [] (lkL [(8,[7,8,37]),(9,[7,8])]) (lkL [(9,[(7,ROrc.own (int i64 (q:Int)) [cells false (n*1) (eh x (m+q))] g)])]) (fun Q=>(fun (u1:Int)=>(fun (u2:Int)=>(fun (u3:AObj)=>(fun (u4:AObj)=>(fun (u5:AV)=>(decide (u1<u2)=true->Tables.follows Tryd.prog.toTables Departure.mixedOrders=true/\n<=n/\(0<=u1/\u1<=u2)/\m<n/\(0<=u1/\u1<=u2)/\0<n/\OpOk Tryd.prog R (Oper.mk (some 45) (Op.call (Call.mk (Callee.builtin Builtin.copy) #[Operand.tmp 41,Operand.tmp 44] #[53,53])) 3 "slices.go:528" #[Edge.mk 3 Ground.data,Edge.mk 6 Ground.data] none) (evO [Row.mk (some 44) none (sl 0 0 (m-0) (n-0) true 1) false (some []) [],Row.mk (some 43) none (int i64 u1) false (some []) [],Row.mk (some 42) none u5 false (some []) [],Row.mk (some 41) none (sl 0 (0+m*1) (n-m) (n-m) true 1) false (some []) [],Row.mk (some 40) none (int i64 u1) false (some []) [],Row.mk (some 39) none u5 false (some []) [],Row.mk (some 38) none (int i64 u1) false (some []) []] [(7,u5),(8,int i64 u1),(37,AV.bool (decide (u1<u2)))] []) [u4] g (int i64 (q:Int)) [u3] g/\(-9223372036854775808<=u1+(q:Int)/\u1+(q:Int)<=9223372036854775807)/\Q AEx.normal (St.mk [(7,u5),(8,int i64 (u1+(q:Int)))] [u3] g))/\(decide (u1<u2)=false->Q (AEx.exit 0) (St.mk [(7,u5),(8,int i64 u1),(37,AV.bool (decide (u1<u2)))] [u4] g))) (sl 0 0 n n true 1)) (cells false (n*1) fun (a:Nat)=>int i64 (if a<m then x else 0))) (cells false (n*1) fun (a:Nat)=>int i64 (if a<m+q then x else 0))) ((n:Int))) ((m:Int))) (fun _=>by kernel_rfl) ⟨fun c1=>have c1:(m:Int)<(n:Int):=(of_decide_eq_true c1);⟨by kernel_rfl,by omega,by omega,by omega,by omega,by omega,?_,by omega,?_⟩,fun c1=>have c1:¬(m:Int)<(n:Int):=(of_decide_eq_false c1);?_⟩
   ·refine pz (t:=53) (es:=1) (N:=n*1) (n:=m-0) (len:=n-m) (ob:=0) (off:=0+m*1) (cap:=n-m) (ex:=true) (get0:=eh x m) (get':=eh x (m+q)) (new:=fun i j=>eh x m (0+i*1+j)) (ob1:=[0+(m-0)*1<=n*1]) q rfl rfl rfl rfl rfl rfl (by kernel_rfl) rfl ⟨by omega,trivial⟩ (by omega) (by omega) (by decide) (by omega) (fun c hc=>?_)
    show AV.int .i64 (if c<m+q then x else 0)=if 0+m*1<=c/\c<0+m*1+q*1 then AV.int .i64 (if 0+(c-(0+m*1))/1*1+(c-(0+m*1))%1<m then x else 0) else AV.int .i64 (if c<m then x else 0)
    by_cases h:0+m*1<=c/\c<0+m*1+q*1
    ·rw[if_pos h,if_pos (by omega),if_pos (by omega)]
    ·rw[if_neg h]
     congr 1
     by_cases h2:c<m
     ·rw[if_pos h2,if_pos (by omega)]
     ·rw[if_neg h2,if_neg (by omega)]
   ·refine(aX (m+q) (aV ⟨Le.refl _,(Le.of_eq (by kernel_rfl)),trivial⟩ rfl rfl) ?_ ?_)
    ·omega
    ·omega
   ·have:m=n:=by omega
    subst this
    refine⟨_,To.refl _,vcQ [] (lkL [(10,[4])]) (fun _=>[]) (fun Q=>Q AEx.ret (St.mk [(4,sl 0 0 m m true 1)] [cells false (m*1) fun (a:Nat)=>int i64 (if a<m then x else 0)] g)) (fun _=>by kernel_rfl) (?_)⟩
    refine(av (aS _ _ rfl trivial rfl rfl rfl) (Le.refl _))
theorem xO (R:Res)(x:Int)(l:KL Int)(n:Nat)(h0:0<n)(hn:n<25)(hl:l=⟨[x],.exa⟩)(hp:List AObj)(g:R.σ):Does Tryd.prog R 55 [ak l,.int .i64 n] hp g (.ret (.sl hp.length 0 n n true 1)) (hp++[.cells false (n*1) (eh x n)]) g:=
 cf [] hp.length (fun R g=>xN R x l n h0 hn hl g) rfl rfl rfl trivial trivial ⟨Le.refl _,Le.refl _,trivial⟩ (Le.refl _) (mA _)
structure OrdAll (p:Prg)(n left:Nat)(L:List Nat):Prop where
 is:∀i,i<L.length->∃A,A<n/\L.getD i 0=au p A
 cov:∀a,left.testBit a=true->∃i,i<L.length/\(L.getD i 0).testBit a=true
 sub:∀i a,i<L.length->(L.getD i 0).testBit a=true->left.testBit a=true
 ord:∀i j a b,i<j->j<L.length->(L.getD i 0).testBit a=true->(L.getD j 0).testBit b=true->¬Reach p a b
theorem ro {p:Prg}{n:Nat}(hx:∀r,r∈p.rules.l->∀l,l∈r.body.l->0<=l.atom/\l.atom<p.atoms)(hr:∀r,r∈p.rules.l->aP r)(hpa:p.atoms=n)(hn:n<=24):∀(f left:Nat) (s:List Bool),(aj left).length<f->LstOk p n s left->OrdAll p n left (eI p f left)
 |0,_,_,h,_=>absurd h (Nat.not_lt_zero _)
 |f+1,left,s,h,hL=>by
  show OrdAll p n left (if left=0 then[] else au p (bm p left)::eI p f (ca left (au p (bm p left))))
  by_cases h0:left=0
  ·rw[if_pos h0,h0]
   exact⟨fun i hi=>absurd hi (Nat.not_lt_zero _),fun a ha=>by simp at ha,fun i a hi=>absurd hi (Nat.not_lt_zero _),fun i j a b _ hj=>absurd hj (Nat.not_lt_zero _)⟩
  ·rw[if_neg h0]
   obtain⟨o1,o2,o3,o4⟩:=kC hr hL.lt h0
   have hb:left.testBit (bm p left)=true:=(Tb.mem_memN.1 o4).2
   have hlt:=hL.inn _ hb
   have hsub:=rc hr hx hpa hn hL hb
   have hless:=nh hr hL.lt h0
   have hnx:=xh hx hr hpa hn hL h0
   have ih:=ro hx hr hpa hn f (ca left (au p (bm p left))) _ (by omega) hnx
   have hml:∀a,(ca left (au p (bm p left))).testBit a=true->left.testBit a=true/\(au p (bm p left)).testBit a=false:=fun a ha=>by
    rw[eH hL.lt,Bool.and_eq_true,Bool.not_eq_true'] at ha
    exact ha
   refine⟨fun i hi=>?_,fun a ha=>?_,fun i a hi ha=>?_,fun i j a b hij hj ha hb'=>?_⟩
   ·cases i with
    |zero=>exact⟨_,hlt,rfl⟩
    |succ i=>exact ih.is i (by simpa using hi)
   ·cases hw:(au p (bm p left)).testBit a with
    |true=>exact⟨0,by simp,hw⟩
    |false=>
     obtain⟨i,h1,h2⟩:=ih.cov a (by rw[eH hL.lt,ha,hw];rfl)
     exact⟨i+1,by simpa using h1,h2⟩
   ·cases i with
    |zero=>exact hsub a ha
    |succ i=>exact(hml a (ih.sub i a (by simpa using hi) ha)).1
   ·cases j with
    |zero=>exact absurd hij (Nat.not_lt_zero _)
    |succ j=>
     have hj:j<(eI p f (ca left (au p (bm p left)))).length:=by simpa using hj
     cases i with
     |zero=>
      intro hab
      obtain⟨b1,b2⟩:=hml b (ih.sub j b hj hb')
      have ha:(au p (bm p left)).testBit a=true:=ha
      obtain⟨w1,w2,w3⟩:=(ec hr (by omega)).1 ha
      have hbn:=hL.inn b b1
      have:=(nf hr hL.lt (by omega)).1 o2 b (w1.trans hab) b1
      have:(au p (bm p left)).testBit b=true:=(ec hr (by omega)).2 ⟨w1.trans hab,this,by omega⟩
      rw[b2] at this
      cases this
     |succ i=>exact ih.ord i j a b (by omega) hj ha hb'
theorem xP {p:Prg}(hb:aJ p=true):OrdAll p p.atoms.toNat (2^p.atoms.toNat-1) (bP p)/\(bP p).length<=p.atoms.toNat:=by
 obtain⟨hl,hr,hp,hh,hx⟩:=eG hb
 have hp':1<=p.atoms/\p.atoms<=24:=hp
 have hs:=xi (p:=p) (n:=p.atoms.toNat) (by omega) (by omega)
 have hm:(aj (2^p.atoms.toNat-1)).length=p.atoms.toNat:=by rw[xj (by omega),List.length_range]
 exact⟨ro hx hr (by omega) (by omega) 25 _ _ (by omega) hs,by have:=rj hr 25 _ hs.lt;rw[hm] at this;exact this⟩
def cx (v:List Int)(i:Nat)(l:List Int):List Int:=l.foldl (fun (v:List Int) (a:Int)=>v.set a.toNat (i:Int)) v
def atK (n:Nat)(L:List Nat):Nat->List Int
 |0=>List.replicate n (-1)
 |k+1=>cx (atK n L k) k (aD (L.getD k 0))
theorem nm {i:Nat}:∀{l v:List Int},(cx v i l).length=v.length
 |[],_=>rfl
 |a::l,v=>by
  show(cx (v.set a.toNat i) i l).length=_
  rw[nm,List.length_set]
theorem np {i:Nat}:∀{l v:List Int} {j:Nat},(∀a,a∈l->0<=a)->j<v.length->((j:Int)∈l->(cx v i l).getD j 0=i)/\((j:Int)∉l->(cx v i l).getD j 0=v.getD j 0)
 |[],_,_,_,_=>⟨fun h=>absurd h (List.not_mem_nil),fun _=>rfl⟩
 |a::l,v,j,h,hj=>by
  obtain⟨h1,h2⟩:=np (i:=i) (l:=l) (v:=v.set a.toNat i) (j:=j) (fun x hx=>h x (List.mem_cons_of_mem _ hx)) (by rw[List.length_set];exact hj)
  have ha:=h a List.mem_cons_self
  by_cases hm:(j:Int)∈l
  ·exact⟨fun _=>h1 hm,fun hn=>absurd (List.mem_cons_of_mem _ hm) hn⟩
  ·refine⟨fun hc=>?_,fun hn=>?_⟩
   ·have e:(j:Int)=a:=by
     rcases List.mem_cons.1 hc with e|e
     ·exact e
     ·exact absurd e hm
    show(cx (v.set a.toNat i) i l).getD j 0=i
    rw[h2 hm,List.getD_eq_getElem?_getD,List.getElem?_set,if_pos (by omega),if_pos (by omega)]
    rfl
   ·have e:a.toNat≠j:=fun e=>hn (by rw[<-e,show((a.toNat:Nat):Int)=a by omega];exact List.mem_cons_self)
    show(cx (v.set a.toNat i) i l).getD j 0=_
    rw[h2 hm,List.getD_eq_getElem?_getD,List.getElem?_set,if_neg e,<-List.getD_eq_getElem?_getD]
theorem kP {s j:Nat}:(j:Int)∈aD s↔j<24/\s.testBit j=true:=by
 constructor
 ·intro h
  obtain⟨b,h1,h2⟩:=List.mem_map.1 h
  have:b=j:=by omega
  rw[<-this]
  exact Tb.mem_memN.1 h1
 ·exact fun h=>List.mem_map.2 ⟨j,Tb.mem_memN.2 h,rfl⟩
theorem jk {s:Nat}:∀a,a∈aD s->0<=a/\a<24/\s.testBit a.toNat=true:=by
 intro a ha
 obtain⟨b,h1,rfl⟩:=List.mem_map.1 ha
 obtain⟨h2,h3⟩:=Tb.mem_memN.1 h1
 exact⟨by omega,by omega,by simpa using h3⟩
theorem jl {n:Nat}{L:List Nat}:∀{k:Nat},(atK n L k).length=n
 |0=>List.length_replicate
 |k+1=>by
  show(cx _ _ _).length=n
  rw[nm,jl]
theorem nq {n:Nat}{L:List Nat}(hn:n<=24)(hd:∀i j a,i<j->j<L.length->(L.getD i 0).testBit a=true->(L.getD j 0).testBit a=false):∀{k a:Nat},k<=L.length->a<n->(∀i,i<k->(L.getD i 0).testBit a=true->(atK n L k).getD a 0=i)/\((∀i,i<k->(L.getD i 0).testBit a=false)->(atK n L k).getD a 0 = -1)
 |0,a,_,ha=>⟨fun i hi=>absurd hi (Nat.not_lt_zero _),fun _=>by
  show(List.replicate n (-1:Int)).getD a 0 = -1
  rw[List.getD_eq_getElem?_getD,List.getElem?_replicate,if_pos ha]
  rfl⟩
 |k+1,a,hk,ha=>by
  obtain⟨h1,h2⟩:=nq hn hd (k:=k) (a:=a) (by omega) ha
  obtain⟨u1,u2⟩:=np (i:=k) (l:=aD (L.getD k 0)) (v:=atK n L k) (j:=a) (fun x hx=>(jk x hx).1) (by rw[jl];exact ha)
  refine⟨fun i hi hb=>?_,fun hno=>?_⟩
  ·show(cx (atK n L k) k (aD (L.getD k 0))).getD a 0=i
   rcases Nat.lt_or_ge i k with hik|hik
   ·have:=hd i k a hik (by omega) hb
    rw[u2 (fun h=>by rw[(kP.1 h).2] at this;cases this)]
    exact h1 i hik hb
   ·obtain rfl:i=k:=by omega
    exact u1 (kP.2 ⟨by omega,hb⟩)
  ·show(cx (atK n L k) k (aD (L.getD k 0))).getD a 0 = -1
   have:=hno k (by omega)
   rw[u2 (fun h=>by rw[(kP.1 h).2] at this;cases this)]
   exact h2 (fun i hi=>hno i (by omega))
theorem rp (s:Nat):gq (aD s)=true:=by
 unfold gq
 rw[List.all_eq_true]
 intro i hi
 have hi:=List.mem_range.1 hi
 have hl:i+1<(aj s).length:=by rw[dn] at hi;omega
 have h:=mP (s:=s) (i:=i) (j:=i+1) (by omega) hl
 have e:∀k,k<(aj s).length->(aD s).getD k 0=(((aj s).getD k 0:Nat):Int):=fun k hk=>by
  unfold aD
  rw[List.getD_eq_getElem?_getD,List.getElem?_map,List.getD_eq_getElem?_getD,List.getElem?_eq_getElem hk]
  rfl
 rw[e _ hl,e _ (by omega),Bool.not_eq_true',decide_eq_false_iff_not]
 omega
theorem xQ {l:List Int}{a:Int}:l.any (eqZ a)=true↔a∈l:=by
 rw[List.any_eq_true]
 constructor
 ·rintro ⟨x,h1,h2⟩
  have:a=x:=by simpa[eqZ] using h2
  rw[this];exact h1
 ·exact fun h=>⟨a,h,by simp[eqZ]⟩
theorem xR {s j:Nat}(hj:j<(aD s).length):(aD s).getD j 0∉(aD s).take j:=by
 rw[dn] at hj
 intro h
 obtain⟨k,hk,e⟩:=List.mem_iff_getElem.1 h
 rw[List.length_take,dn] at hk
 rw[List.getElem_take] at e
 have hkj:k<j:=by omega
 have:=mP hkj hj
 have e2:(aD s).getD k 0=(aD s).getD j 0:=by
  rw[<-e,List.getD_eq_getElem?_getD,List.getElem?_eq_getElem (by rw[dn];omega)]
  rfl
 rw[gh,gh] at e2
 omega
theorem xS {n i j:Nat}{L:List Nat}(hn:n<=24)(hd:∀i j a,i<j->j<L.length->(L.getD i 0).testBit a=true->(L.getD j 0).testBit a=false)(hin:∀i a,i<L.length->(L.getD i 0).testBit a=true->a<n)(hi:i<L.length)(hj:j<(aD (L.getD i 0)).length) :
  (0<=(aD (L.getD i 0)).getD j 0/\(aD (L.getD i 0)).getD j 0<n)/\(cx (atK n L i) i ((aD (L.getD i 0)).take j)).getD ((aD (L.getD i 0)).getD j 0).toNat 0 = -1:=by
 obtain⟨h1,h2,h3⟩:=jk _ (bK (aD (L.getD i 0)) 0 hj)
 have han:=hin i _ hi h3
 refine⟨⟨h1,by omega⟩,?_⟩
 rw[(np (i:=i) (l:=(aD (L.getD i 0)).take j) (fun x hx=>(jk x (List.mem_of_mem_take hx)).1) (by rw[jl];exact han)).2 (by rw[show((((aD (L.getD i 0)).getD j 0).toNat:Nat):Int)=(aD (L.getD i 0)).getD j 0 by omega];exact xR hj)]
 refine(nq hn hd (by omega) han).2 (fun k hk=>?_)
 cases hb:(L.getD k 0).testBit ((aD (L.getD i 0)).getD j 0).toNat with
 |false=>rfl
 |true=>rw[hd k i _ hk hi hb] at h3;cases h3
structure CompOk (p:Prg)(n:Nat)(L:List Nat)(v:List Int):Prop where
 len:v.length=n
 at_:∀a,a<n->0<=v.getD a 0/\v.getD a 0<L.length
 up:∀a b,a<n->Reach p a b->b<n/\v.getD b 0<=v.getD a 0
 same:∀a b,a<n->(L.getD (v.getD a 0).toNat 0).testBit b=true->Reach p a b
theorem xT {p:Prg}{n:Nat}{L:List Nat}(hx:∀r,r∈p.rules.l->∀l,l∈r.body.l->0<=l.atom/\l.atom<p.atoms)(hr:∀r,r∈p.rules.l->aP r)(hpa:p.atoms=n)(hn:n<=24)(oa:OrdAll p n (2^n-1) L):CompOk p n L (atK n L L.length):=by
 have hd:∀i j a,i<j->j<L.length->(L.getD i 0).testBit a=true->(L.getD j 0).testBit a=false:=fun i j a h1 h2 h3=>by
  cases hb:(L.getD j 0).testBit a with
  |false=>rfl
  |true=>exact absurd (.refl a) (oa.ord i j a a h1 h2 h3 hb)
 have hv:∀a,a<n->∃i,i<L.length/\(L.getD i 0).testBit a=true/\(atK n L L.length).getD a 0=i:=fun a ha=>by
  obtain⟨i,h1,h2⟩:=oa.cov a (by rw[Nat.testBit_two_pow_sub_one,decide_eq_true ha])
  exact⟨i,h1,h2,(nq hn hd (Nat.le_refl _) ha).1 i h1 h2⟩
 have hw:∀i a b,i<L.length->(L.getD i 0).testBit a=true->(L.getD i 0).testBit b=true->Reach p a b:=fun i a b hi ha hb=>by
  obtain⟨A,h1,h2⟩:=oa.is i hi
  rw[h2] at ha hb
  exact((ec hr (by omega)).1 ha).2.1.trans ((ec hr (by omega)).1 hb).1
 refine⟨jl,fun a ha=>?_,fun a b ha hab=>?_,fun a b ha hb=>?_⟩
 ·obtain⟨i,h1,h2,h3⟩:=hv a ha
  omega
 ·have hbn:=ra hx hpa ha hab
  refine⟨hbn,?_⟩
  obtain⟨i,h1,h2,h3⟩:=hv a ha
  obtain⟨j,k1,k2,k3⟩:=hv b hbn
  rw[h3,k3]
  rcases Nat.lt_or_ge i j with hij|hij
  ·exact absurd hab (oa.ord i j a b hij k1 h2 k2)
  ·omega
 ·obtain⟨i,h1,h2,h3⟩:=hv a ha
  rw[h3] at hb
  exact hw i a b h1 h2 hb
theorem rq (R:Res)(p:Prg)(a b:Nat)(hp:List AObj)(g:R.σ)(hr:∀r,r∈p.rules.l->aP r)(ha:a<24)(h:Reach p a b)(hb:b<24):Does Tryd.prog R 43 [ak (ac (hgP p a)),.int .i64 b] hp g (.ret (.bool true)) hp g:=by
 have h1:=xH R (ac (hgP p a)) b hp g ji
 rw[show(ac (hgP p a)).l=aD (hgP p a) from rfl,xQ.2 (show(b:Int)∈aD (hgP p a) from kP.2 ⟨hb,(dp hr ha).2 h⟩)] at h1
 exact h1
theorem xU (R:Res)[Tab LT R](p:Prg)(g:R.σ):Does Tryd.prog R 13 [aA p] [] g (.ret (.bool true)) [] g:=by
 have hroom:aN=140737488355328:=rfl
 refine ax (nt:=188) (rs:=[.tmp 2]) (k0:=0) (by kernel_rfl) (by kernel_rfl) (by kernel_rfl) rfl ?_
 cases hf:eD p&&aJ p with
 |false=>
  refine vcQ [[1,0,1,1]] (lkL [(0,[1]),(1,[1,23]),(2,[2])]) (lkL [(1,[(1,ROrc.pcall (AV.bool false))]),(2,[(0,ROrc.kcall (AV.bool true))])]) (fun Q=>(fun (u1:List AObj)=>2<=2/\(∀(hp:List AObj) (g:R.σ),true=true/\Does Tryd.prog R 35 [aA p] hp g (ret (AV.bool false)) hp g)/\(true=true->(true=true/\Does Tryd.prog R 15 [] u1 g (ret (AV.bool true)) u1 g)/\Q AEx.ret (St.mk [(2,AV.bool true)] u1 g))/\(true=false->Wp Tryd.prog R 188 0 Rd.top (ah Tryd.prog 13) [1,0,1,1] (aq Tryd.prog R 188 0 Rd.top (ah Tryd.prog 13) Q [Kont.seq [1,1]]) (St.mk [(1,ref 0 0),(23,AV.bool true)] u1 g))) ([cells false 2 (nth [int i64 p.atoms,ae p.rules])])) (fun _=>by kernel_rfl) ⟨by omega,(fun _ _=>⟨rfl,(jW hf (pR _ _ _ _))⟩),fun _=>⟨⟨rfl,(bc (T:=LT) inferInstance [] 1 (fun R _ g=>rh R g) rfl rfl rfl (by exact trivial) (by exact trivial) (by exact trivial) (by exact aC (by exact trivial)) (by exact⟨LeO.rflc,trivial⟩))⟩,?_⟩,fun h=>(nomatch h)⟩
  refine(av (bE _ _ rfl trivial trivial rfl) (Le.refl _))
 |true=>
  rw[Bool.and_eq_true] at hf
  obtain⟨hsm,hb⟩:=hf
  obtain⟨hl,hr,hp,hh,hx⟩:=eG hb
  have hs:dK p:=fF hb
  have hp':1<=p.atoms/\p.atoms<=24:=hp
  obtain⟨n,hn⟩:∃n,p.atoms.toNat=n:=⟨_,rfl⟩
  have hpa:p.atoms=n:=by omega
  obtain⟨oa,ol⟩:=xP hb
  rw[hn] at oa ol
  have hO:∀(R:Res) [Tab LT R] (g:R.σ),Does Tryd.prog R 31 [aA p] [] g (.ret (.tup 2 (nth [cw (bP p).length (fun i=>ac ((bP p).getD i 0)),.int .i64 0]))) [] g:=fun R _ g=>q8 R p hb g
  have hF:∀(R:Res) (hp:List AObj) (g:R.σ),Does Tryd.prog R 35 [aA p] hp g (.ret (.bool true)) hp g:=fun R hp g=>by
   have h:=pR R p hp g
   rw[hsm,hb] at h
   exact h
  obtain⟨L,hL⟩:∃L,bP p=L:=⟨_,rfl⟩
  rw[hL] at oa ol hO
  have hgt:(bif false then true else decide ((L.length:Int) > p.atoms))=false:=decide_eq_false (by omega)
  obtain⟨m1,hm1⟩:∃v:KL Int,v=⟨[-1],.exa⟩:=⟨_,rfl⟩
  have hR:∀(R:Res) (hp:List AObj) (g:R.σ),Does Tryd.prog R 55 [ak m1,.int .i64 p.atoms] hp g (.ret (.sl hp.length 0 n n true 1)) (hp++[.cells false (n*1) (eh (-1) n)]) g:=fun R hp g=>by rw[hpa];exact xO R (-1) m1 n (by omega) (by omega) hm1 hp g
  refine vcQ [[1,0,1,0],[1,1,1,0,1,0]] (lkL [(0,[1]),(1,[1,23]),(3,[1,3,4]),(4,[1,3,38]),(6,[1,3,5]),(7,[1,3,5,43,44,45])]) (lkL [(1,[(1,ROrc.pcall (AV.bool true))]),(3,[(1,ROrc.kcall (tup 2 (nth [fz Fz.auto 1 (L.length) fun (i x:Nat)=>fz Fz.auto 1 ((ac (L.getD i 0)).l.length) fun (i_1 x:Nat)=>af (ac (L.getD i 0)).l i_1,int i64 0])))]),(6,[(0,ROrc.kop (ak m1)),(3,ROrc.call (sl (List.length [cells false 2 (nth [int i64 p.atoms,ae p.rules])]) 0 n n true 1) ([cells false 2 (nth [int i64 p.atoms,ae p.rules])]++[cells false (n*1) (eh (-1) n)]) g)])]) (fun Q=>(fun (u1:AV)=>(fun (u2:AObj)=>(fun (u3:Bool)=>(fun (u4:List AObj)=>(fun (u5:AV)=>2<=2/\(∀(hp:List AObj) (g:R.σ),true=true/\Does Tryd.prog R 35 [aA p] hp g (ret (AV.bool true)) hp g)/\(false=true->Wp Tryd.prog R 188 0 Rd.top (ah Tryd.prog 13) [1,0,1,0] (aq Tryd.prog R 188 0 Rd.top (ah Tryd.prog 13) Q [Kont.seq [1,1]]) (St.mk [(1,ref 0 0),(23,AV.bool false)] [u2] g))/\(false=false->2<=2/\(true=true/\Does Tryd.prog R 31 [aA p] [u2] g (ret (tup 2 (nth [u1,int i64 0]))) [u2] g)/\(true=true->1<=2)/\(u3=true->Wp Tryd.prog R 188 0 Rd.top (ah Tryd.prog 13) [1,1,1,0,1,0] (aq Tryd.prog R 188 0 Rd.top (ah Tryd.prog 13) Q [Kont.seq [1,1,1,1]]) (St.mk [(1,ref 0 0),(3,u1),(38,AV.bool u3)] [u2] g))/\(u3=false->OpOk Tryd.prog R (Oper.mk (some 39) (Op.buildSlice 53 1 #[(0,Operand.const (Value.int i64 (-1)))]) 53 "outright.go:179" #[] none) (evO [] [(1,ref 0 0),(3,u1),(38,AV.bool u3)] []) [u2] g u5 [u2] g/\1<=2/\(true=true/\Does Tryd.prog R 55 [u5,int i64 p.atoms] [u2] g (ret (sl 1 0 n n true 1)) u4 g)/\Wp Tryd.prog R 188 0 Rd.top (ah Tryd.prog 13) [1,1,1,1,1,0,1,0] (aq Tryd.prog R 188 0 Rd.top (ah Tryd.prog 13) Q [Kont.blk 0,Kont.seq [1,1,1,1,1,1]]) (St.mk [(1,ref 0 0),(3,u1),(5,sl 1 0 n n true 1),(43,u1),(44,int i64 (L.length:Int)),(45,int i64 0)] u4 g)))) (fz m1.2 1 (m1.l.length) fun (i x:Nat)=>af m1.l i)) ([u2,cells false (n*1) fun (a:Nat)=>int i64 (if a<n then -1 else 0)])) (bif false then true else decide ((L.length:Int) > p.atoms))) (cells false 2 (nth [int i64 p.atoms,ae p.rules]))) (fz Fz.auto 1 (L.length) fun (i x:Nat)=>fz Fz.auto 1 ((ac (L.getD i 0)).l.length) fun (i_1 x:Nat)=>af (ac (L.getD i 0)).l i_1)) (fun _=>by kernel_rfl) ⟨by omega,(fun _ _=>⟨rfl,(hF _ _ _)⟩),fun h=>(nomatch h),fun _=>⟨by omega,⟨rfl,(bc (T:=LT) inferInstance [] 1 (fun R _ g=>hO R g) rfl rfl rfl (by exact trivial) (by exact trivial) (by exact⟨aB (by exact⟨⟨trivial,trivial⟩,trivial⟩),trivial⟩) (by exact aC (by exact⟨⟨trivial,trivial⟩,trivial⟩)) (by exact⟨LeO.rflc,trivial⟩))⟩,by omega,fun hcc=>(nomatch (hgt.symm.trans hcc)),fun _=>⟨?_,by omega,⟨rfl,(hR _ _ _)⟩,?_⟩⟩⟩
  ·subst hm1;exact bS (n:=1) (es:=1) (by kernel_rfl) (by exact⟨trivial,trivial⟩) rfl rfl (fun i hi j hj=>match i,hi,j,hj with|0,_,0,_=>(by kernel_rfl) ) (fun i hi j hj=>match i,hi,j,hj with|0,_,0,_=>trivial )
  refine cA (bl (s':=⟨[(1,.ref 0 0),(3,cw L.length (fun i=>ac (L.getD i 0))),(5,.ow true 1 n 1),(43,cw L.length (fun i=>ac (L.getD i 0))),(44,.int .i64 L.length),(45,.int .i64 0)],[.cells false 2 (nth [.int .i64 p.atoms,ae p.rules]),.cells false (n*1) (af (atK n L 0))],g⟩) ?_ ?_ rfl) ?_
  ·exact⟨Le.refl _,Le.refl _,Le.sl_ow (by omega),Le.refl _,Le.refl _,Le.refl _,trivial⟩
  ·exact⟨LeO.refl _,⟨rfl,Nat.le_refl _,fun j hj=>Le.of_eq (by
    show AV.int .i64 (if j<n then -1 else 0)=AV.int .i64 ((List.replicate n (-1:Int)).getD j 0)
    rw[if_pos (by omega),List.getD_eq_getElem?_getD,List.getElem?_replicate,if_pos (by omega)]
    rfl)⟩,trivial⟩
  have hd:∀i j a,i<j->j<L.length->(L.getD i 0).testBit a=true->(L.getD j 0).testBit a=false:=fun i j a h1 h2 h3=>by
   cases hb:(L.getD j 0).testBit a with
   |false=>rfl
   |true=>exact absurd (.refl a) (oa.ord i j a a h1 h2 h3 hb)
  have hin:∀i a,i<L.length->(L.getD i 0).testBit a=true->a<n:=fun i a hi ha=>by
   have:=oa.sub i a hi ha
   rw[Nat.testBit_two_pow_sub_one,decide_eq_true_eq] at this
   exact this
  have hne:∀i,i<L.length->0<(aD (L.getD i 0)).length/\(aD (L.getD i 0)).length<=24:=fun i hi=>by
   rw[dn]
   refine⟨?_,eF _⟩
   obtain⟨A,h1,h2⟩:=oa.is i hi
   rw[h2]
   exact List.length_pos_of_mem (Tb.mem_memN.2 ⟨by omega,(ec hr (by omega)).2 ⟨.refl _,.refl _,by omega⟩⟩:A∈aj (au p A))
  refine(bb (by kernel_rfl) (fun (i:Nat)=>⟨[(1,ref 0 0),(3,fz Fz.auto 1 (L.length) fun (i x:Nat)=>fz Fz.auto 1 ((ac (L.getD i 0)).l.length) fun (i_1 x:Nat)=>af (ac (L.getD i 0)).l i_1),(5,ow true 1 n 1),(43,fz Fz.auto 1 (L.length) fun (i x:Nat)=>fz Fz.auto 1 ((ac (L.getD i 0)).l.length) fun (i_1 x:Nat)=>af (ac (L.getD i 0)).l i_1),(44,int i64 (L.length:Int)),(45,.int .i64 i)],[.cells false 2 (nth [.int .i64 p.atoms,ae p.rules]),.cells false (n*1) (af (atK n L i))],g⟩) (fun (i:Nat)=>(i<=L.length)) (fun (i:Nat)=>(L.length-i)) 0 (aV ⟨Le.refl _,Le.refl _,Le.refl _,Le.refl _,Le.refl _,(Le.of_eq (by kernel_rfl)),trivial⟩ rfl rfl) ?_ (fun i hi=>?_))
  ·exact Nat.zero_le _
  ·rcases Nat.lt_or_ge i L.length with hlt|hge
   ·obtain⟨k1,k2⟩:=hne i hlt
    have k3:(ac (L.getD i 0)).l.length<=24:=k2
    have hI:∀(R:Res) (hp:List AObj) (g:R.σ),Does Tryd.prog R 56 [ak (ac (L.getD i 0))] hp g (.ret (.bool true)) hp g:=fun R hp g=>by
     have h:=rl R (ac (L.getD i 0)) hp g ji
     rw[show(ac (L.getD i 0)).l=aD (L.getD i 0) from rfl,rp] at h
     exact h
    have hkn:(bif ((((ac (L.getD i 0)).l.length:Nat):Int)==0) then true else false)=false:=by
     rw[beq_false_of_ne (by show(((aD (L.getD i 0)).length:Nat):Int)≠0;omega)]
     rfl
    refine vcQ [[1,1,1,1,1,0,1,0,0,1,1,0,0,1,0,1,0]] (lkL [(8,[1,3,5,43,44,45,46]),(9,[1,3,5,6,7,43,44,45]),(10,[1,3,5,6,7,43,44,45,57]),(12,[1,3,5,6,43,44,45,58,59,60])]) (lkL [(10,[(5,ROrc.pcall (AV.bool true))])]) (fun Q=>(fun (u1:AV)=>(fun (u2:Nat)=>(fun (u3:List AObj)=>(fun (u4:Int)=>(fun (u5:AV)=>(fun (u6:Int)=>(fun (u7:Bool)=>(fun (u8:List Kont)=>(decide (u6<u4)=true->(0<=u6/\u6<u4)/\1<=1/\((!(u2:Int)==0)=true->∀(hp:List AObj) (g:R.σ),true=true/\Does Tryd.prog R 56 [u5] hp g (ret (AV.bool true)) hp g)/\(u7=true->Wp Tryd.prog R 188 0 Rd.top (ah Tryd.prog 13) [1,1,1,1,1,0,1,0,0,1,1,0,0,1,0,1,0] (aq Tryd.prog R 188 0 Rd.top (ah Tryd.prog 13) Q (Kont.seq [1,1,1,1,1,0,1,0,0,1,1,0,0,1,1]::u8)) (St.mk [(1,ref 0 0),(3,u1),(5,ow true 1 n 1),(6,int i64 u6),(7,u5),(43,u1),(44,int i64 u4),(45,int i64 u6),(57,AV.bool u7)] u3 g))/\(u7=false->Wp Tryd.prog R 188 0 Rd.top (ah Tryd.prog 13) [1,1,1,1,1,0,1,0,0,1,1,0,0,1,1,1,0] (aq Tryd.prog R 188 0 Rd.top (ah Tryd.prog 13) Q (Kont.blk 2::u8)) (St.mk [(1,ref 0 0),(3,u1),(5,ow true 1 n 1),(6,int i64 u6),(43,u1),(44,int i64 u4),(45,int i64 u6),(58,u5),(59,int i64 (u2:Int)),(60,int i64 0)] u3 g)))/\(decide (u6<u4)=false->Q (AEx.exit 0) (St.mk [(1,ref 0 0),(3,u1),(5,ow true 1 n 1),(43,u1),(44,int i64 u4),(45,int i64 u6),(46,AV.bool (decide (u6<u4)))] u3 g))) ([Kont.blk 1,Kont.seq [1,1,1,1,1,0,1,0,0,1,1,1]])) (bif (u2:Int)==0 then true else false)) ((i:Int))) (fz Fz.auto 1 u2 fun (i_1 x:Nat)=>af (ac (L.getD i 0)).l i_1)) ((L.length:Int))) ([cells false 2 (nth [int i64 p.atoms,ae p.rules]),cells false (n*1) fun (a:Nat)=>af (atK n L i) a])) ((ac (L.getD i 0)).l.length)) (fz Fz.auto 1 (L.length) fun (i x:Nat)=>fz Fz.auto 1 ((ac (L.getD i 0)).l.length) fun (i_1 x:Nat)=>af (ac (L.getD i 0)).l i_1)) (fun _=>by kernel_rfl) ⟨fun c1=>have c1:(i:Int)<(L.length:Int):=(of_decide_eq_true c1);⟨by omega,by omega,(fun hgd=>(fun _ _=>⟨rfl,(hI _ _ _)⟩)),fun hcc=>(nomatch (hkn.symm.trans hcc)),fun _=>?_⟩,fun c1=>have c1:¬(i:Int)<(L.length:Int):=(of_decide_eq_false c1);?_⟩
    ·refine(bb (by kernel_rfl) (fun (j:Nat)=>⟨[(1,ref 0 0),(3,fz Fz.auto 1 (L.length) fun (i x:Nat)=>fz Fz.auto 1 ((ac (L.getD i 0)).l.length) fun (i_1 x:Nat)=>af (ac (L.getD i 0)).l i_1),(5,ow true 1 n 1),(6,int i64 (i:Int)),(43,fz Fz.auto 1 (L.length) fun (i x:Nat)=>fz Fz.auto 1 ((ac (L.getD i 0)).l.length) fun (i_1 x:Nat)=>af (ac (L.getD i 0)).l i_1),(44,int i64 (L.length:Int)),(45,int i64 (i:Int)),(58,fz Fz.auto 1 ((ac (L.getD i 0)).l.length) fun (i_1 x:Nat)=>af (ac (L.getD i 0)).l i_1),(59,int i64 (↑((ac (L.getD i 0)).l.length):Int)),(60,.int .i64 j)],[.cells false 2 (nth [.int .i64 p.atoms,ae p.rules]),.cells false (n*1) (af (cx (atK n L i) i ((ac (L.getD i 0)).l.take j)))],g⟩) (fun (j:Nat)=>(j<=(ac (L.getD i 0)).l.length)) (fun (j:Nat)=>((ac (L.getD i 0)).l.length-j)) 0 (bl ⟨Le.refl _,Le.refl _,Le.refl _,Le.refl _,Le.refl _,Le.refl _,Le.refl _,Le.refl _,Le.refl _,(Le.of_eq (by kernel_rfl)),trivial⟩ ⟨LeO.rflc,LeO.rflc,trivial⟩ rfl) ?_ (fun j hi=>?_))
     ·exact Nat.zero_le _
     ·rcases Nat.lt_or_ge j (ac (L.getD i 0)).l.length with hj|hj
      ·obtain⟨f1,f2⟩:=xS (by omega) hd hin hlt hj
       have hst:=kz (fun (v:List Int) (a:Int)=>v.set a.toNat (i:Int)) (atK n L i) (ac (L.getD i 0)).l 0 hj
       have hvl:(cx (atK n L i) i ((ac (L.getD i 0)).l.take j)).length=n:=by rw[nm,jl]
       obtain⟨v,hv⟩:∃v,cx (atK n L i) i ((ac (L.getD i 0)).l.take j)=v:=⟨_,rfl⟩
       have hst:cx (atK n L i) i ((ac (L.getD i 0)).l.take (j+1))=(cx (atK n L i) i ((ac (L.getD i 0)).l.take j)).set ((ac (L.getD i 0)).l.getD j 0).toNat (i:Int):=hst
       have f1:0<=(ac (L.getD i 0)).l.getD j 0/\(ac (L.getD i 0)).l.getD j 0<n:=f1
       have f2:(cx (atK n L i) i ((ac (L.getD i 0)).l.take j)).getD ((ac (L.getD i 0)).l.getD j 0).toNat 0 = -1:=f2
       rw[hv] at hst hvl f2 ⊢
       have hkn2:(bif (bif decide ((ac (L.getD i 0)).l.getD j 0<0) then true else decide ((ac (L.getD i 0)).l.getD j 0 >= p.atoms)) then true else decide (v.getD ((ac (L.getD i 0)).l.getD j 0).toNat 0 >= 0))=false:=by
        rw[f2,decide_eq_false (by omega),decide_eq_false (by omega),decide_eq_false (by omega)]
        rfl
       refine vcQ [[1,1,1,1,1,0,1,0,0,1,1,0,0,1,1,1,0,0,1,1,0,0,1,0,1,0]] (lkL [(13,[1,3,5,6,43,44,45,58,59,60,61]),(14,[1,3,5,6,9,43,44,45,58,59,60]),(15,[1,3,5,6,9,43,44,45,58,59,60,78]),(17,[1,3,5,6,43,44,45,58,59,60]),(18,[1,3,5,6,43,44,45,58,59,60])]) (fun _=>[]) (fun Q=>(fun (u1:Int)=>(fun (u2:AV)=>(fun (u3:Int)=>(fun (u4:Bool)=>(fun (u5:Nat × AV)=>(fun (u6:Int)=>(fun (u7:AV)=>(fun (u8:AObj)=>(fun (u9:Nat × AV)=>(fun (u10:Bool)=>(decide (u6<u3)=true->(0<=u6/\u6<u3)/\1<=1/\((!decide (u1<0))=true->1<=2)/\(u10=true->0<=u1/\u1<(n:Int))/\(u10=true->u1.toNat+1<=n*1)/\(u4=true->Wp Tryd.prog R 188 0 Rd.top (ah Tryd.prog 13) [1,1,1,1,1,0,1,0,0,1,1,0,0,1,1,1,0,0,1,1,0,0,1,0,1,0] (aq Tryd.prog R 188 0 Rd.top (ah Tryd.prog 13) Q [Kont.seq [1,1,1,1,1,0,1,0,0,1,1,0,0,1,1,1,0,0,1,1,0,0,1,1],Kont.blk 3,Kont.seq [1,1,1,1,1,0,1,0,0,1,1,0,0,1,1,1,0,0,1,1,1]]) (St.mk [(1,ref 0 0),(3,u2),(5,ow true 1 n 1),(6,u7),(9,af (ac (L.getD i 0)).l j),(43,u2),u9,(45,u7),u5,(59,int i64 u3),(60,int i64 u6),(78,AV.bool u4)] [u8,cells false (n*1) fun (a:Nat)=>af v a] g))/\(u4=false->(0<=u1/\u1<(n:Int))/\u1.toNat+1<=n*1/\(-9223372036854775808<=u6+1/\u6+1<=9223372036854775807)/\Q AEx.normal (St.mk [(1,ref 0 0),(3,u2),(5,ow true 1 n 1),(6,u7),(43,u2),u9,(45,u7),u5,(59,int i64 u3),(60,int i64 (u6+1))] [u8,cells false (n*1) (ap (af v) (u1.toNat) 1 fun (x:Nat)=>u7)] g)))/\(decide (u6<u3)=false->Q (AEx.exit 2) (St.mk [(1,ref 0 0),(3,u2),(5,ow true 1 n 1),(6,u7),(43,u2),u9,(45,u7),u5,(59,int i64 u3),(60,int i64 u6),(61,AV.bool (decide (u6<u3)))] [u8,cells false (n*1) fun (a:Nat)=>af v a] g))) (!bif decide (u1<0) then true else decide (u1 >= p.atoms))) ((44,int i64 (L.length:Int)))) (cells false 2 (nth [int i64 p.atoms,ae p.rules]))) (int i64 (i:Int))) ((j:Int))) ((58,fz Fz.auto 1 ((ac (L.getD i 0)).l.length) fun (i_1 x:Nat)=>af (ac (L.getD i 0)).l i_1))) (bif bif decide (u1<0) then true else decide (u1 >= p.atoms) then true else decide (v.getD (u1.toNat) 0 >= 0))) ((↑((ac (L.getD i 0)).l.length):Int))) (fz Fz.auto 1 (L.length) fun (i x:Nat)=>fz Fz.auto 1 ((ac (L.getD i 0)).l.length) fun (i_1 x:Nat)=>af (ac (L.getD i 0)).l i_1)) ((ac (L.getD i 0)).l.getD j 0)) (fun _=>by kernel_rfl) ⟨fun c1=>have c1:(j:Int)<(↑((ac (L.getD i 0)).l.length):Int):=(of_decide_eq_true c1);⟨by omega,by omega,by omega,by omega,by omega,fun hcc=>(nomatch (hkn2.symm.trans hcc)),fun _=>⟨by omega,by omega,by omega,?_⟩⟩,fun c1=>have c1:¬(j:Int)<(↑((ac (L.getD i 0)).l.length):Int):=(of_decide_eq_false c1);?_⟩
       ·refine(aX (j+1) (bl ⟨Le.refl _,Le.refl _,Le.refl _,Le.refl _,Le.refl _,Le.refl _,Le.refl _,Le.refl _,Le.refl _,(Le.of_eq (by kernel_rfl)),trivial⟩ ⟨LeO.rflc,?_,trivial⟩ rfl) ?_ ?_)
        ·exact⟨rfl,Nat.le_refl _,fun j _=>by
          rw[hst]
          exact Le.of_eq (wO (by omega))⟩
        ·omega
        ·omega
       ·exfalso;omega
      ·have hje:j=(ac (L.getD i 0)).l.length:=by omega
       subst hje
       rw[List.take_length]
       have hbb:decide (((ac (L.getD i 0)).l.length:Int)<((ac (L.getD i 0)).l.length:Int))=false:=decide_eq_false (by omega)
       refine vcQ [[1,1,1,1,1,0,1,0,0,1,1,0,0,1,1,1,0,0,1,0,0]] (lkL [(13,[1,3,5,6,43,44,45,58,59,60,61])]) (fun _=>[]) (fun Q=>(fun (u1:St R.σ)=>(fun (u2:Int)=>(decide (u2<u2)=true->Wp Tryd.prog R 188 0 Rd.top (ah Tryd.prog 13) [1,1,1,1,1,0,1,0,0,1,1,0,0,1,1,1,0,0,1,0,0] (aq Tryd.prog R 188 0 Rd.top (ah Tryd.prog 13) Q [Kont.seq [1,1,1,1,1,0,1,0,0,1,1,0,0,1,1,1,0,0,1,1]]) u1)/\(decide (u2<u2)=false->Q (AEx.exit 2) u1)) ((↑((ac (L.getD i 0)).l.length):Int))) (St.mk [(1,ref 0 0),(3,fz Fz.auto 1 (L.length) fun (i x:Nat)=>fz Fz.auto 1 ((ac (L.getD i 0)).l.length) fun (i_1 x:Nat)=>af (ac (L.getD i 0)).l i_1),(5,ow true 1 n 1),(6,int i64 (i:Int)),(43,fz Fz.auto 1 (L.length) fun (i x:Nat)=>fz Fz.auto 1 ((ac (L.getD i 0)).l.length) fun (i_1 x:Nat)=>af (ac (L.getD i 0)).l i_1),(44,int i64 (L.length:Int)),(45,int i64 (i:Int)),(58,fz Fz.auto 1 ((ac (L.getD i 0)).l.length) fun (i_1 x:Nat)=>af (ac (L.getD i 0)).l i_1),(59,int i64 (↑((ac (L.getD i 0)).l.length):Int)),(60,int i64 (↑((ac (L.getD i 0)).l.length):Int)),(61,AV.bool (decide ((↑((ac (L.getD i 0)).l.length):Int)<(↑((ac (L.getD i 0)).l.length):Int))))] [cells false 2 (nth [int i64 p.atoms,ae p.rules]),cells false (n*1) fun (a:Nat)=>af (cx (atK n L i) i (ac (L.getD i 0)).l) a] g)) (fun _=>by kernel_rfl) ⟨fun hcc=>(nomatch (hbb.symm.trans hcc)),fun _=>?_⟩
       refine⟨_,To.refl _,vcQ [] (lkL [(19,[1,3,5,43,44,45])]) (fun _=>[]) (fun Q=>(fun (u1:AV)=>(-9223372036854775808<=(i:Int)+1/\(i:Int)+1<=9223372036854775807)/\Q AEx.normal (St.mk [(1,ref 0 0),(3,u1),(5,ow true 1 n 1),(43,u1),(44,int i64 (L.length:Int)),(45,int i64 ((i:Int)+1))] [cells false 2 (nth [int i64 p.atoms,ae p.rules]),cells false (n*1) fun (a:Nat)=>af (cx (atK n L i) i (ac (L.getD i 0)).l) a] g)) (fz Fz.auto 1 (L.length) fun (i x:Nat)=>fz Fz.auto 1 ((ac (L.getD i 0)).l.length) fun (i_1 x:Nat)=>af (ac (L.getD i 0)).l i_1)) (fun _=>by kernel_rfl) ⟨by omega,?_⟩⟩
       refine(aX (i+1) (bl ⟨Le.refl _,Le.refl _,Le.refl _,Le.refl _,Le.refl _,(Le.of_eq (by kernel_rfl)),trivial⟩ ⟨LeO.rflc,?_,trivial⟩ rfl) ?_ ?_)
       ·exact⟨rfl,Nat.le_refl _,fun j _=>Le.of_eq rfl⟩
       ·omega
       ·omega
    ·exfalso;omega
   ·have hie:i=L.length:=by omega
    subst hie
    have hbb:decide ((L.length:Int)<(L.length:Int))=false:=decide_eq_false (by omega)
    refine vcQ [[1,1,1,1,1,0,1,0,0,1,0,0]] (lkL [(8,[1,3,5,43,44,45,46])]) (fun _=>[]) (fun Q=>(fun (u1:St R.σ)=>(fun (u2:Int)=>(decide (u2<u2)=true->Wp Tryd.prog R 188 0 Rd.top (ah Tryd.prog 13) [1,1,1,1,1,0,1,0,0,1,0,0] (aq Tryd.prog R 188 0 Rd.top (ah Tryd.prog 13) Q [Kont.seq [1,1,1,1,1,0,1,0,0,1,1]]) u1)/\(decide (u2<u2)=false->Q (AEx.exit 0) u1)) ((L.length:Int))) (St.mk [(1,ref 0 0),(3,fz Fz.auto 1 (L.length) fun (i x:Nat)=>fz Fz.auto 1 ((ac (L.getD i 0)).l.length) fun (i_1 x:Nat)=>af (ac (L.getD i 0)).l i_1),(5,ow true 1 n 1),(43,fz Fz.auto 1 (L.length) fun (i x:Nat)=>fz Fz.auto 1 ((ac (L.getD i 0)).l.length) fun (i_1 x:Nat)=>af (ac (L.getD i 0)).l i_1),(44,int i64 (L.length:Int)),(45,int i64 (L.length:Int)),(46,AV.bool (decide ((L.length:Int)<(L.length:Int))))] [cells false 2 (nth [int i64 p.atoms,ae p.rules]),cells false (n*1) fun (a:Nat)=>af (atK n L (L.length)) a] g)) (fun _=>by kernel_rfl) ⟨fun hcc=>(nomatch (hbb.symm.trans hcc)),fun _=>?_⟩
    refine⟨_,To.refl _,vcQ [] (lkL [(20,[1,3,5,86,87])]) (fun _=>[]) (fun Q=>1<=2/\Wp Tryd.prog R 188 0 Rd.top (ah Tryd.prog 13) [1,1,1,1,1,1,0,1,0] (aq Tryd.prog R 188 0 Rd.top (ah Tryd.prog 13) Q [Kont.blk 4,Kont.seq [1,1,1,1,1,1,1]]) (St.mk [(1,ref 0 0),(3,fz Fz.auto 1 (L.length) fun (i x:Nat)=>fz Fz.auto 1 ((ac (L.getD i 0)).l.length) fun (i_1 x:Nat)=>af (ac (L.getD i 0)).l i_1),(5,ow true 1 n 1),(86,int i64 p.atoms),(87,int i64 0)] [cells false 2 (nth [int i64 p.atoms,ae p.rules]),cells false (n*1) fun (a:Nat)=>af (atK n L (L.length)) a] g)) (fun _=>by kernel_rfl) ⟨by omega,?_⟩⟩
    rw[hpa]
    have hc:=xT hx hr hpa (by omega) oa
    obtain⟨v,hv⟩:∃v,atK n L L.length=v:=⟨_,rfl⟩
    rw[hv] at hc ⊢
    have hvl:=hc.len
    have hRe:∀(R:Res) [Tab LT R] (a:Nat) (ha:a<n) (g:R.σ),Does Tryd.prog R 30 [aA ⟨(n:Int),p.rules⟩,.int .i64 a] [] g (.ret (.tup 2 (nth [ak (ac (hgP p a)),.int .i64 0]))) [] g:=fun R _ a ha g=>by
     have h:=wb R p a hb (by omega) g
     rw[show p=⟨(n:Int),p.rules⟩ by rw[<-hpa]] at h
     exact h
    refine(bb (by kernel_rfl) (fun (a:Nat)=>⟨[(1,ref 0 0),(3,fz Fz.auto 1 (L.length) fun (i x:Nat)=>fz Fz.auto 1 ((ac (L.getD i 0)).l.length) fun (i_1 x:Nat)=>af (ac (L.getD i 0)).l i_1),(5,ow true 1 n 1),(86,int i64 (n:Int)),(87,.int .i64 a)],[cells false 2 (nth [int i64 (n:Int),ae p.rules]),cells false (n*1) fun (a:Nat)=>af v a],g⟩) (fun (a:Nat)=>(a<=n)) (fun (a:Nat)=>(n-a)) 0 (aV ⟨Le.refl _,Le.refl _,Le.refl _,Le.refl _,(Le.of_eq (by kernel_rfl)),trivial⟩ rfl rfl) ?_ (fun a hi=>?_))
    ·exact Nat.zero_le _
    ·rcases Nat.lt_or_ge a n with ha|ha
     ·obtain⟨q1,q2⟩:=hc.at_ a ha
      have hS:∀(R:Res) (hp:List AObj) (g:R.σ),Does Tryd.prog R 56 [ak (ac (hgP p a))] hp g (.ret (.bool true)) hp g:=fun R hp g=>by
       have h:=rl R (ac (hgP p a)) hp g ji
       rw[show(ac (hgP p a)).l=aD (hgP p a) from rfl,rp] at h
       exact h
      have hC0:=fun (R:Res) (hp:List AObj) (g:R.σ)=>rq R p a a hp g hr (by omega) (.refl a) (by omega)
      have hkn3:(bif (bif (bif false then true else decide (v.getD a 0<0)) then true else false) then true else false)=false:=by
       rw[decide_eq_false (by omega)]
       rfl
      have hll:(ac (hgP p a)).l.length<=24:=by
       show(aD (hgP p a)).length<=24
       rw[dn]
       exact eF _
      refine vcQ [[1,1,1,1,1,1,0,1,0,0,1,1,0,0,1,1,0,1,0]] (lkL [(21,[1,3,5,86,87,88]),(22,[1,3,5,10,86,87]),(23,[1,3,5,10,11,12,86,87]),(24,[1,3,5,10,11,86,87,115]),(26,[1,3,5,10,11,86,87,116,117,118])]) (lkL [(23,[(2,ROrc.kcall (tup 2 (nth [fz Fz.auto 1 ((ac (hgP p a)).l.length) fun (i x:Nat)=>af (ac (hgP p a)).l i,int i64 0])))]),(24,[(11,ROrc.pcall (AV.bool true)),(17,ROrc.pcall (AV.bool true))])]) (fun Q=>(fun (u1:AV)=>(fun (u2:List AObj)=>(fun (u3:Nat × AV)=>(fun (u4:Bool)=>(fun (u5:Int)=>(fun (u6:Int)=>(fun (u7:List Kont)=>(decide (u5<u6)=true->2<=2/\(true=true/\Does Tryd.prog R 30 [agg 2 (nth [int i64 u6,ae p.rules]),int i64 u5] u2 g (ret (tup 2 (nth [u1,int i64 0]))) u2 g)/\(true=true->0<=u5/\u5<u6)/\(true=true->a+1<=n*1)/\((!bif false then true else decide (v.getD a 0<0))=true->∀(hp:List AObj) (g:R.σ),true=true/\Does Tryd.prog R 56 [u1] hp g (ret (AV.bool true)) hp g)/\((!u4)=true->∀(hp:List AObj) (g:R.σ),true=true/\Does Tryd.prog R 43 [u1,int i64 u5] hp g (ret (AV.bool true)) hp g)/\((bif u4 then true else false)=true->Wp Tryd.prog R 188 0 Rd.top (ah Tryd.prog 13) [1,1,1,1,1,1,0,1,0,0,1,1,0,0,1,1,0,1,0] (aq Tryd.prog R 188 0 Rd.top (ah Tryd.prog 13) Q (Kont.seq [1,1,1,1,1,1,0,1,0,0,1,1,0,0,1,1,1]::u7)) (St.mk [(1,ref 0 0),u3,(5,ow true 1 n 1),(10,int i64 u5),(11,u1),(86,int i64 u6),(87,int i64 u5),(115,AV.bool (bif u4 then true else false))] u2 g))/\((bif u4 then true else false)=false->Wp Tryd.prog R 188 0 Rd.top (ah Tryd.prog 13) [1,1,1,1,1,1,0,1,0,0,1,1,0,0,1,1,1,0,1,0] (aq Tryd.prog R 188 0 Rd.top (ah Tryd.prog 13) Q (Kont.blk 6::Kont.seq [1,1,1,1,1,1,0,1,0,0,1,1,0,0,1,1,1,1]::u7)) (St.mk [(1,ref 0 0),u3,(5,ow true 1 n 1),(10,int i64 u5),(11,u1),(86,int i64 u6),(87,int i64 u5),(116,u1),(117,int i64 (↑((ac (hgP p a)).l.length):Int)),(118,int i64 0)] u2 g)))/\(decide (u5<u6)=false->Q (AEx.exit 4) (St.mk [(1,ref 0 0),u3,(5,ow true 1 n 1),(86,int i64 u6),(87,int i64 u5),(88,AV.bool (decide (u5<u6)))] u2 g))) ([Kont.blk 5,Kont.seq [1,1,1,1,1,1,0,1,0,0,1,1,1]])) ((n:Int))) ((a:Int))) (bif bif false then true else decide (v.getD a 0<0) then true else false)) ((3,fz Fz.auto 1 (L.length) fun (i x:Nat)=>fz Fz.auto 1 ((ac (L.getD i 0)).l.length) fun (i_1 x:Nat)=>af (ac (L.getD i 0)).l i_1))) ([cells false 2 (nth [int i64 (n:Int),ae p.rules]),cells false (n*1) fun (a:Nat)=>af v a])) (fz Fz.auto 1 ((ac (hgP p a)).l.length) fun (i x:Nat)=>af (ac (hgP p a)).l i)) (fun _=>by kernel_rfl) ⟨fun c1=>have c1:(a:Int)<(n:Int):=(of_decide_eq_true c1);⟨by omega,⟨rfl,(bc (T:=LT) inferInstance [] 2 (fun R _ g=>hRe R (a) (by omega) g) rfl rfl rfl (by exact trivial) (by exact trivial) (by exact⟨aB (by exact⟨⟨trivial,trivial⟩,trivial⟩),aB (by exact trivial),trivial⟩) (by exact aC (by exact⟨⟨trivial,trivial⟩,trivial⟩)) (by exact⟨LeO.rflc,LeO.rflc,trivial⟩))⟩,by omega,by omega,(fun hgd=>(fun _ _=>⟨rfl,(hS _ _ _)⟩)),(fun hgd=>(fun _ _=>⟨rfl,(hC0 _ _ _)⟩)),fun hcc=>(nomatch (hkn3.symm.trans hcc)),fun _=>?_⟩,fun c1=>have c1:¬(a:Int)<(n:Int):=(of_decide_eq_false c1);?_⟩
      ·refine(bb (by kernel_rfl) (fun (j:Nat)=>⟨[(1,ref 0 0),(3,fz Fz.auto 1 (L.length) fun (i x:Nat)=>fz Fz.auto 1 ((ac (L.getD i 0)).l.length) fun (i_1 x:Nat)=>af (ac (L.getD i 0)).l i_1),(5,ow true 1 n 1),(10,int i64 (a:Int)),(11,fz Fz.auto 1 ((ac (hgP p a)).l.length) fun (i x:Nat)=>af (ac (hgP p a)).l i),(86,int i64 (n:Int)),(87,int i64 (a:Int)),(116,fz Fz.auto 1 ((ac (hgP p a)).l.length) fun (i x:Nat)=>af (ac (hgP p a)).l i),(117,int i64 (↑((ac (hgP p a)).l.length):Int)),(118,.int .i64 j)],[cells false 2 (nth [int i64 (n:Int),ae p.rules]),cells false (n*1) fun (a:Nat)=>af v a],g⟩) (fun (j:Nat)=>(j<=(ac (hgP p a)).l.length)) (fun (j:Nat)=>((ac (hgP p a)).l.length-j)) 0 (aV ⟨Le.refl _,Le.refl _,Le.refl _,Le.refl _,Le.refl _,Le.refl _,Le.refl _,Le.refl _,Le.refl _,(Le.of_eq (by kernel_rfl)),trivial⟩ rfl rfl) ?_ (fun j hi=>?_))
       ·exact Nat.zero_le _
       ·rcases Nat.lt_or_ge j (ac (hgP p a)).l.length with hj|hj
        ·obtain⟨b1,b2,b3⟩:=jk _ (bK (aD (hgP p a)) 0 hj)
         obtain⟨b4,b5⟩:=hc.up a _ ha ((dp hr (by omega)).1 b3)
         have b1:0<=(ac (hgP p a)).l.getD j 0:=b1
         have b4:((ac (hgP p a)).l.getD j 0).toNat<n:=b4
         have b5:v.getD ((ac (hgP p a)).l.getD j 0).toNat 0<=v.getD a 0:=b5
         have hkn4:(bif (bif decide ((ac (hgP p a)).l.getD j 0<0) then true else decide ((ac (hgP p a)).l.getD j 0 >= (n:Int))) then true else decide (v.getD ((ac (hgP p a)).l.getD j 0).toNat 0 > v.getD a 0))=false:=by
          rw[decide_eq_false (by omega),decide_eq_false (by omega),decide_eq_false (by omega)]
          rfl
         refine vcQ [[1,1,1,1,1,1,0,1,0,0,1,1,0,0,1,1,1,0,1,0,0,1,1,0,0,1,1,0]] (lkL [(27,[1,3,5,10,11,86,87,116,117,118,119]),(28,[1,3,5,10,11,14,86,87,116,117,118]),(29,[1,3,5,10,11,86,87,116,117,118,140]),(31,[1,3,5,10,11,86,87,116,117,118])]) (fun _=>[]) (fun Q=>(fun (u1:Int)=>(fun (u2:AV)=>(fun (u3:Int)=>(fun (u4:Bool)=>(fun (u5:Nat × AV)=>(fun (u6:List AObj)=>(fun (u7:Bool)=>(fun (u8:Int)=>(fun (u9:AV)=>(decide (u8<u3)=true->(0<=u8/\u8<u3)/\1<=1/\Tables.follows Tryd.prog.toTables Departure.mixedOrders=true/\((!decide (u1<0))=true->1<=2)/\((!u4)=true->0<=u1/\u1<(n:Int))/\((!u4)=true->u1.toNat+1<=n*1)/\((!u4)=true->0<=(a:Int)/\(a:Int)<(n:Int))/\((!u4)=true->a+1<=n*1)/\(u7=true->Wp Tryd.prog R 188 0 Rd.top (ah Tryd.prog 13) [1,1,1,1,1,1,0,1,0,0,1,1,0,0,1,1,1,0,1,0,0,1,1,0,0,1,1,0] (aq Tryd.prog R 188 0 Rd.top (ah Tryd.prog 13) Q [Kont.blk 7,Kont.seq [1,1,1,1,1,1,0,1,0,0,1,1,0,0,1,1,1,0,1,0,0,1,1,1]]) (St.mk [(1,ref 0 0),u5,(5,ow true 1 n 1),(10,u9),(11,u2),(86,int i64 (n:Int)),(87,u9),(116,u2),(117,int i64 u3),(118,int i64 u8),(140,AV.bool u7)] u6 g))/\(u7=false->(-9223372036854775808<=u8+1/\u8+1<=9223372036854775807)/\Q AEx.normal (St.mk [(1,ref 0 0),u5,(5,ow true 1 n 1),(10,u9),(11,u2),(86,int i64 (n:Int)),(87,u9),(116,u2),(117,int i64 u3),(118,int i64 (u8+1))] u6 g)))/\(decide (u8<u3)=false->Q (AEx.exit 6) (St.mk [(1,ref 0 0),u5,(5,ow true 1 n 1),(10,u9),(11,u2),(86,int i64 (n:Int)),(87,u9),(116,u2),(117,int i64 u3),(118,int i64 u8),(119,AV.bool (decide (u8<u3)))] u6 g))) (int i64 (a:Int))) ((j:Int))) (bif u4 then true else decide (v.getD (u1.toNat) 0 > v.getD a 0))) ([cells false 2 (nth [int i64 (n:Int),ae p.rules]),cells false (n*1) fun (a:Nat)=>af v a])) ((3,fz Fz.auto 1 (L.length) fun (i x:Nat)=>fz Fz.auto 1 ((ac (L.getD i 0)).l.length) fun (i_1 x:Nat)=>af (ac (L.getD i 0)).l i_1))) (bif decide (u1<0) then true else decide (u1 >= (n:Int)))) ((↑((ac (hgP p a)).l.length):Int))) (fz Fz.auto 1 ((ac (hgP p a)).l.length) fun (i x:Nat)=>af (ac (hgP p a)).l i)) ((ac (hgP p a)).l.getD j 0)) (fun _=>by kernel_rfl) ⟨fun c1=>have c1:(j:Int)<(↑((ac (hgP p a)).l.length):Int):=(of_decide_eq_true c1);⟨by omega,by omega,by kernel_rfl,by omega,by omega,by omega,by omega,by omega,fun hcc=>(nomatch (hkn4.symm.trans hcc)),fun _=>⟨by omega,?_⟩⟩,fun c1=>have c1:¬(j:Int)<(↑((ac (hgP p a)).l.length):Int):=(of_decide_eq_false c1);?_⟩
         ·refine(aX (j+1) (aV ⟨Le.refl _,Le.refl _,Le.refl _,Le.refl _,Le.refl _,Le.refl _,Le.refl _,Le.refl _,Le.refl _,(Le.of_eq (by kernel_rfl)),trivial⟩ rfl rfl) ?_ ?_)
          ·omega
          ·omega
         ·exfalso;omega
        ·have hje:j=(ac (hgP p a)).l.length:=by omega
         subst hje
         have hbb:decide (((ac (hgP p a)).l.length:Int)<((ac (hgP p a)).l.length:Int))=false:=decide_eq_false (by omega)
         refine vcQ [[1,1,1,1,1,1,0,1,0,0,1,1,0,0,1,1,1,0,1,0,0,1,0,0]] (lkL [(27,[1,3,5,10,11,86,87,116,117,118,119])]) (fun _=>[]) (fun Q=>(fun (u1:St R.σ)=>(fun (u2:Int)=>(decide (u2<u2)=true->Wp Tryd.prog R 188 0 Rd.top (ah Tryd.prog 13) [1,1,1,1,1,1,0,1,0,0,1,1,0,0,1,1,1,0,1,0,0,1,0,0] (aq Tryd.prog R 188 0 Rd.top (ah Tryd.prog 13) Q [Kont.seq [1,1,1,1,1,1,0,1,0,0,1,1,0,0,1,1,1,0,1,0,0,1,1]]) u1)/\(decide (u2<u2)=false->Q (AEx.exit 6) u1)) ((↑((ac (hgP p a)).l.length):Int))) (St.mk [(1,ref 0 0),(3,fz Fz.auto 1 (L.length) fun (i x:Nat)=>fz Fz.auto 1 ((ac (L.getD i 0)).l.length) fun (i_1 x:Nat)=>af (ac (L.getD i 0)).l i_1),(5,ow true 1 n 1),(10,int i64 (a:Int)),(11,fz Fz.auto 1 ((ac (hgP p a)).l.length) fun (i x:Nat)=>af (ac (hgP p a)).l i),(86,int i64 (n:Int)),(87,int i64 (a:Int)),(116,fz Fz.auto 1 ((ac (hgP p a)).l.length) fun (i x:Nat)=>af (ac (hgP p a)).l i),(117,int i64 (↑((ac (hgP p a)).l.length):Int)),(118,int i64 (↑((ac (hgP p a)).l.length):Int)),(119,AV.bool (decide ((↑((ac (hgP p a)).l.length):Int)<(↑((ac (hgP p a)).l.length):Int))))] [cells false 2 (nth [int i64 (n:Int),ae p.rules]),cells false (n*1) fun (a:Nat)=>af v a] g)) (fun _=>by kernel_rfl) ⟨fun hcc=>(nomatch (hbb.symm.trans hcc)),fun _=>?_⟩
         refine⟨_,To.refl _,vcQ [] (lkL [(32,[1,3,5,11,86,87,148,149,150])]) (fun _=>[]) (fun Q=>(fun (u1:List Int)=>(0<=(a:Int)/\(a:Int)<(n:Int))/\a+1<=n*1/\(0<=v.getD a 0/\v.getD a 0<(L.length:Int))/\1<=1/\Wp Tryd.prog R 188 0 Rd.top (ah Tryd.prog 13) [1,1,1,1,1,1,0,1,0,0,1,1,0,0,1,1,1,1,1,0] (aq Tryd.prog R 188 0 Rd.top (ah Tryd.prog 13) Q [Kont.blk 8]) (St.mk [(1,ref 0 0),(3,fz Fz.auto 1 (L.length) fun (i x:Nat)=>fz Fz.auto 1 ((ac (L.getD i 0)).l.length) fun (i_1 x:Nat)=>af (ac (L.getD i 0)).l i_1),(5,ow true 1 n 1),(11,fz Fz.auto 1 ((ac (hgP p a)).l.length) fun (i x:Nat)=>af (ac (hgP p a)).l i),(86,int i64 (n:Int)),(87,int i64 (a:Int)),(148,fz Fz.auto 1 (u1.length) fun (i_1 x:Nat)=>af u1 i_1),(149,int i64 (u1.length:Int)),(150,int i64 0)] [cells false 2 (nth [int i64 (n:Int),ae p.rules]),cells false (n*1) fun (a:Nat)=>af v a] g)) ((ac (L.getD ((v.getD a 0).toNat) 0)).l)) (fun _=>by kernel_rfl) ⟨by omega,by omega,by omega,by omega,?_⟩⟩
         obtain⟨w,hw⟩:∃w,L.getD (v.getD a 0).toNat 0=w:=⟨_,rfl⟩
         rw[hw]
         have hwl:(ac w).l.length<=24:=by
          show(aD w).length<=24
          rw[dn]
          exact eF _
         refine(bb (by kernel_rfl) (fun (j:Nat)=>⟨[(1,ref 0 0),(3,fz Fz.auto 1 (L.length) fun (i x:Nat)=>fz Fz.auto 1 ((ac (L.getD i 0)).l.length) fun (i_1 x:Nat)=>af (ac (L.getD i 0)).l i_1),(5,ow true 1 n 1),(11,fz Fz.auto 1 ((ac (hgP p a)).l.length) fun (i x:Nat)=>af (ac (hgP p a)).l i),(86,int i64 (n:Int)),(87,int i64 (a:Int)),(148,fz Fz.auto 1 ((ac w).l.length) fun (i_1 x:Nat)=>af (ac w).l i_1),(149,int i64 (↑((ac w).l.length):Int)),(150,.int .i64 j)],[cells false 2 (nth [int i64 (n:Int),ae p.rules]),cells false (n*1) fun (a:Nat)=>af v a],g⟩) (fun (j:Nat)=>(j<=(ac w).l.length)) (fun (j:Nat)=>((ac w).l.length-j)) 0 (aV ⟨Le.refl _,Le.refl _,Le.refl _,Le.refl _,Le.refl _,Le.refl _,Le.refl _,Le.refl _,(Le.of_eq (by kernel_rfl)),trivial⟩ rfl rfl) ?_ (fun j hi=>?_))
         ·exact Nat.zero_le _
         ·rcases Nat.lt_or_ge j (ac w).l.length with hj|hj
          ·obtain⟨b1,b2,b3⟩:=jk _ (bK (aD w) 0 hj)
           have hC1:∀(R:Res) (hp:List AObj) (g:R.σ),Does Tryd.prog R 43 [ak (ac (hgP p a)),.int .i64 ((ac w).l.getD j 0)] hp g (.ret (.bool true)) hp g:=fun R hp g=>by
            have h:=rq R p a ((aD w).getD j 0).toNat hp g hr (by omega) (hc.same a _ ha (by rw[hw];exact b3)) (by omega)
            rw[show((((aD w).getD j 0).toNat:Nat):Int)=(ac w).l.getD j 0 from Int.toNat_of_nonneg b1] at h
            exact h
           refine vcQ [[1,1,1,1,1,1,0,1,0,0,1,1,0,0,1,1,1,1,1,0,0,1,1,0,0,1,1,0]] (lkL [(33,[1,3,5,11,86,87,148,149,150,151]),(34,[1,3,5,11,16,86,87,148,149,150]),(35,[1,3,5,11,86,87,148,149,150,157]),(37,[1,3,5,11,86,87,148,149,150])]) (lkL [(35,[(2,ROrc.pcall (AV.bool true))])]) (fun Q=>(fun (u1:Nat × AV)=>(fun (u2:Int)=>(fun (u3:AV)=>(fun (u4:List AObj)=>(fun (u5:Nat × AV)=>(fun (u6:Int)=>(decide (u6<u2)=true->(0<=u6/\u6<u2)/\1<=1/\(∀(hp:List AObj) (g:R.σ),true=true/\Does Tryd.prog R 43 [u3,af (ac w).l j] hp g (ret (AV.bool true)) hp g)/\(false=true->Wp Tryd.prog R 188 0 Rd.top (ah Tryd.prog 13) [1,1,1,1,1,1,0,1,0,0,1,1,0,0,1,1,1,1,1,0,0,1,1,0,0,1,1,0] (aq Tryd.prog R 188 0 Rd.top (ah Tryd.prog 13) Q [Kont.blk 9,Kont.seq [1,1,1,1,1,1,0,1,0,0,1,1,0,0,1,1,1,1,1,0,0,1,1,1]]) (St.mk [(1,ref 0 0),u1,(5,ow true 1 n 1),(11,u3),(86,int i64 (n:Int)),(87,int i64 (a:Int)),u5,(149,int i64 u2),(150,int i64 u6),(157,AV.bool false)] u4 g))/\(false=false->(-9223372036854775808<=u6+1/\u6+1<=9223372036854775807)/\Q AEx.normal (St.mk [(1,ref 0 0),u1,(5,ow true 1 n 1),(11,u3),(86,int i64 (n:Int)),(87,int i64 (a:Int)),u5,(149,int i64 u2),(150,int i64 (u6+1))] u4 g)))/\(decide (u6<u2)=false->Q (AEx.exit 8) (St.mk [(1,ref 0 0),u1,(5,ow true 1 n 1),(11,u3),(86,int i64 (n:Int)),(87,int i64 (a:Int)),u5,(149,int i64 u2),(150,int i64 u6),(151,AV.bool (decide (u6<u2)))] u4 g))) ((j:Int))) ((148,fz Fz.auto 1 ((ac w).l.length) fun (i_1 x:Nat)=>af (ac w).l i_1))) ([cells false 2 (nth [int i64 (n:Int),ae p.rules]),cells false (n*1) fun (a:Nat)=>af v a])) (fz Fz.auto 1 ((ac (hgP p a)).l.length) fun (i x:Nat)=>af (ac (hgP p a)).l i)) ((↑((ac w).l.length):Int))) ((3,fz Fz.auto 1 (L.length) fun (i x:Nat)=>fz Fz.auto 1 ((ac (L.getD i 0)).l.length) fun (i_1 x:Nat)=>af (ac (L.getD i 0)).l i_1))) (fun _=>by kernel_rfl) ⟨fun c1=>have c1:(j:Int)<(↑((ac w).l.length):Int):=(of_decide_eq_true c1);⟨by omega,by omega,(fun _ _=>⟨rfl,(hC1 _ _ _)⟩),fun h=>(nomatch h),fun _=>⟨by omega,?_⟩⟩,fun c1=>have c1:¬(j:Int)<(↑((ac w).l.length):Int):=(of_decide_eq_false c1);?_⟩
           ·refine(aX (j+1) (aV ⟨Le.refl _,Le.refl _,Le.refl _,Le.refl _,Le.refl _,Le.refl _,Le.refl _,Le.refl _,(Le.of_eq (by kernel_rfl)),trivial⟩ rfl rfl) ?_ ?_)
            ·omega
            ·omega
           ·exfalso;omega
          ·have hje:j=(ac w).l.length:=by omega
           subst hje
           have hbb:decide (((ac w).l.length:Int)<((ac w).l.length:Int))=false:=decide_eq_false (by omega)
           refine vcQ [[1,1,1,1,1,1,0,1,0,0,1,1,0,0,1,1,1,1,1,0,0,1,0,0]] (lkL [(33,[1,3,5,11,86,87,148,149,150,151])]) (fun _=>[]) (fun Q=>(fun (u1:St R.σ)=>(fun (u2:Int)=>(decide (u2<u2)=true->Wp Tryd.prog R 188 0 Rd.top (ah Tryd.prog 13) [1,1,1,1,1,1,0,1,0,0,1,1,0,0,1,1,1,1,1,0,0,1,0,0] (aq Tryd.prog R 188 0 Rd.top (ah Tryd.prog 13) Q [Kont.seq [1,1,1,1,1,1,0,1,0,0,1,1,0,0,1,1,1,1,1,0,0,1,1]]) u1)/\(decide (u2<u2)=false->Q (AEx.exit 8) u1)) ((↑((ac w).l.length):Int))) (St.mk [(1,ref 0 0),(3,fz Fz.auto 1 (L.length) fun (i x:Nat)=>fz Fz.auto 1 ((ac (L.getD i 0)).l.length) fun (i_1 x:Nat)=>af (ac (L.getD i 0)).l i_1),(5,ow true 1 n 1),(11,fz Fz.auto 1 ((ac (hgP p a)).l.length) fun (i x:Nat)=>af (ac (hgP p a)).l i),(86,int i64 (n:Int)),(87,int i64 (a:Int)),(148,fz Fz.auto 1 ((ac w).l.length) fun (i_1 x:Nat)=>af (ac w).l i_1),(149,int i64 (↑((ac w).l.length):Int)),(150,int i64 (↑((ac w).l.length):Int)),(151,AV.bool (decide ((↑((ac w).l.length):Int)<(↑((ac w).l.length):Int))))] [cells false 2 (nth [int i64 (n:Int),ae p.rules]),cells false (n*1) fun (a:Nat)=>af v a] g)) (fun _=>by kernel_rfl) ⟨fun hcc=>(nomatch (hbb.symm.trans hcc)),fun _=>?_⟩
           refine⟨_,To.refl _,vcQ [] (lkL [(38,[1,3,5,86,87])]) (fun _=>[]) (fun Q=>(-9223372036854775808<=(a:Int)+1/\(a:Int)+1<=9223372036854775807)/\Q AEx.normal (St.mk [(1,ref 0 0),(3,fz Fz.auto 1 (L.length) fun (i x:Nat)=>fz Fz.auto 1 ((ac (L.getD i 0)).l.length) fun (i_1 x:Nat)=>af (ac (L.getD i 0)).l i_1),(5,ow true 1 n 1),(86,int i64 (n:Int)),(87,int i64 ((a:Int)+1))] [cells false 2 (nth [int i64 (n:Int),ae p.rules]),cells false (n*1) fun (a:Nat)=>af v a] g)) (fun _=>by kernel_rfl) ⟨by omega,?_⟩⟩
           refine(aX (a+1) (aV ⟨Le.refl _,Le.refl _,Le.refl _,Le.refl _,(Le.of_eq (by kernel_rfl)),trivial⟩ rfl rfl) ?_ ?_)
           ·omega
           ·omega
      ·exfalso;omega
     ·have hae:a=n:=by omega
      subst hae
      have hbb:decide ((a:Int)<(a:Int))=false:=decide_eq_false (by omega)
      refine vcQ [[1,1,1,1,1,1,0,1,0,0,1,0,0]] (lkL [(21,[1,3,5,86,87,88])]) (fun _=>[]) (fun Q=>(fun (u1:St R.σ)=>(fun (u2:Int)=>(decide (u2<u2)=true->Wp Tryd.prog R 188 0 Rd.top (ah Tryd.prog 13) [1,1,1,1,1,1,0,1,0,0,1,0,0] (aq Tryd.prog R 188 0 Rd.top (ah Tryd.prog 13) Q [Kont.seq [1,1,1,1,1,1,0,1,0,0,1,1]]) u1)/\(decide (u2<u2)=false->Q (AEx.exit 4) u1)) ((a:Int))) (St.mk [(1,ref 0 0),(3,fz Fz.auto 1 (L.length) fun (i x:Nat)=>fz Fz.auto 1 ((ac (L.getD i 0)).l.length) fun (i_1 x:Nat)=>af (ac (L.getD i 0)).l i_1),(5,ow true 1 a 1),(86,int i64 (a:Int)),(87,int i64 (a:Int)),(88,AV.bool (decide ((a:Int)<(a:Int))))] [cells false 2 (nth [int i64 (a:Int),ae p.rules]),cells false (a*1) fun (a:Nat)=>af v a] g)) (fun _=>by kernel_rfl) ⟨fun hcc=>(nomatch (hbb.symm.trans hcc)),fun _=>?_⟩
      refine⟨_,To.refl _,vcQ [] (lkL [(39,[5,161,162,163])]) (fun _=>[]) (fun Q=>2<=2/\Wp Tryd.prog R 188 0 Rd.top (ah Tryd.prog 13) [1,1,1,1,1,1,1,0,1,0] (aq Tryd.prog R 188 0 Rd.top (ah Tryd.prog 13) Q [Kont.blk 10,Kont.seq [1,1,1,1,1,1,1,1]]) (St.mk [(5,ow true 1 a 1),(161,ae p.rules),(162,int i64 (p.rules.l.length:Int)),(163,int i64 0)] [cells false 2 (nth [int i64 (a:Int),ae p.rules]),cells false (a*1) fun (a:Nat)=>af v a] g)) (fun _=>by kernel_rfl) ⟨by omega,?_⟩⟩
      refine(bb (by kernel_rfl) (fun (i:Nat)=>⟨[(5,ow true 1 a 1),(161,ae p.rules),(162,int i64 (p.rules.l.length:Int)),(163,.int .i64 i)],[cells false 2 (nth [int i64 (a:Int),ae p.rules]),cells false (a*1) fun (a:Nat)=>af v a],g⟩) (fun (i:Nat)=>(i<=p.rules.l.length)) (fun (i:Nat)=>(p.rules.l.length-i)) 0 (aV ⟨Le.refl _,Le.refl _,Le.refl _,(Le.of_eq (by kernel_rfl)),trivial⟩ rfl rfl) ?_ (fun i hi=>?_))
      ·exact Nat.zero_le _
      ·rcases Nat.lt_or_ge i p.rules.l.length with hi|hi
       ·have hm:=bK p.rules.l default hi
        have h1:=hx _ hm
        have h2:=(hr _ hm).1.1
        have h3:=(hr _ hm).2
        have h4:=hh _ hm
        refine vcQ [] (lkL [(40,[5,161,162,163,164]),(41,[5,18,161,162,163]),(42,[5,18,161,162,163,168,169,170])]) (lkL [(41,[(3,ROrc.val (Orc.obj (nth [int i64 (p.rules.l.getD i default).head,am (p.rules.l.getD i default).body])))])]) (fun Q=>(fun (u1:Int)=>(fun (u2:Rule)=>(fun (u3:Int)=>(fun (u4:List AV)=>(fun (u5:AObj)=>(decide (u3<u1)=true->(0<=u3/\u3<u1)/\2<=2/\2<=2/\(∀(c:Nat),c<2->nth u4 c=ap (nth [int i64 0,fz Fz.nil 0 0 fun _ _=>any]) 0 2 (List.brecOn (motive:=fun (x:List AV)=>Nat->AV) u4 nth._f) c)/\2<=2/\Wp Tryd.prog R 188 0 Rd.top (ah Tryd.prog 13) [1,1,1,1,1,1,1,0,1,0,0,1,1,0,0,1,1,0] (aq Tryd.prog R 188 0 Rd.top (ah Tryd.prog 13) Q [Kont.blk 12,Kont.blk 11,Kont.seq [1,1,1,1,1,1,1,0,1,0,0,1,1,1]]) (St.mk [(5,ow true 1 a 1),(18,ref 2 0),(161,ae p.rules),(162,int i64 u1),(163,int i64 u3),(168,am u2.body),(169,int i64 (u2.body.l.length:Int)),(170,int i64 0)] [u5,cells false (a*1) fun (a:Nat)=>af v a,cells false 2 (nth u4)] g))/\(decide (u3<u1)=false->Q (AEx.exit 10) (St.mk [(5,ow true 1 a 1),(161,ae p.rules),(162,int i64 u1),(163,int i64 u3),(164,AV.bool (decide (u3<u1)))] [u5,cells false (a*1) fun (a:Nat)=>af v a] g))) (cells false 2 (nth [int i64 (a:Int),ae p.rules]))) ([int i64 u2.head,am u2.body])) ((i:Int))) (p.rules.l.getD i default)) ((p.rules.l.length:Int))) (fun _=>by kernel_rfl) ⟨fun c1=>have c1:(i:Int)<(p.rules.l.length:Int):=(of_decide_eq_true c1);⟨by omega,by omega,by omega,(fun c hc=>match c,hc with|0,_=>(by kernel_rfl)|1,_=>(by kernel_rfl) ),by omega,?_⟩,fun c1=>have c1:¬(i:Int)<(p.rules.l.length:Int):=(of_decide_eq_false c1);?_⟩
        ·refine(bb (by kernel_rfl) (fun (k:Nat)=>⟨[(5,ow true 1 a 1),(18,ref 2 0),(161,ae p.rules),(162,int i64 (p.rules.l.length:Int)),(163,int i64 (i:Int)),(168,am (p.rules.l.getD i default).body),(169,int i64 (↑((p.rules.l.getD i default).body.l.length):Int)),(170,.int .i64 k)],[cells false 2 (nth [int i64 (a:Int),ae p.rules]),cells false (a*1) fun (a:Nat)=>af v a,cells false 2 (nth [int i64 (p.rules.l.getD i default).head,am (p.rules.l.getD i default).body])],g⟩) (fun (k:Nat)=>(k<=(p.rules.l.getD i default).body.l.length)) (fun (k:Nat)=>((p.rules.l.getD i default).body.l.length-k)) 0 (aV ⟨Le.refl _,Le.refl _,Le.refl _,Le.refl _,Le.refl _,Le.refl _,Le.refl _,(Le.of_eq (by kernel_rfl)),trivial⟩ rfl rfl) ?_ (fun k hi=>?_))
         ·exact Nat.zero_le _
         ·rcases Nat.lt_or_ge k (p.rules.l.getD i default).body.l.length with hk|hk
          ·have h5:=h1 _ (bK (p.rules.l.getD i default).body.l default hk)
           obtain⟨h6,h7⟩:=hc.up (p.rules.l.getD i default).head.toNat ((p.rules.l.getD i default).body.l.getD k default).atom.toNat (by omega) (.step ⟨_,hm,by omega,_,bK (p.rules.l.getD i default).body.l default hk,rfl⟩ (.refl _))
           have hkn5:decide (v.getD ((p.rules.l.getD i default).body.l.getD k default).atom.toNat 0 > v.getD (p.rules.l.getD i default).head.toNat 0)=false:=decide_eq_false (by omega)
           refine vcQ [[1,1,1,1,1,1,1,0,1,0,0,1,1,0,0,1,1,0,0,1,1,0,0,1,1,0]] (lkL [(43,[5,18,161,162,163,168,169,170,171]),(44,[5,18,20,161,162,163,168,169,170]),(45,[5,18,161,162,163,168,169,170,184]),(47,[5,18,161,162,163,168,169,170])]) (lkL [(44,[(3,ROrc.val (Orc.obj (nth [int i64 ((p.rules.l.getD i default).body.l.getD k default).atom,AV.bool ((p.rules.l.getD i default).body.l.getD k default).neg])))])]) (fun Q=>(fun (u1:Rule)=>(fun (u2:Lit)=>(fun (u3:Int)=>(fun (u4:List AObj)=>(fun (u5:Int)=>(fun (u6:Int)=>(fun (u7:Int)=>(fun (u8:Nat × AV)=>(decide (u7<u3)=true->(0<=u7/\u7<u3)/\2<=2/\2<=2/\(∀(c:Nat),c<2->nth [int i64 u2.atom,AV.bool u2.neg] c=ap (nth [int i64 0,AV.bool false]) 0 2 (List.brecOn (motive:=fun (x:List AV)=>Nat->AV) [int i64 u2.atom,AV.bool u2.neg] nth._f) c)/\Tables.follows Tryd.prog.toTables Departure.mixedOrders=true/\1<=2/\(0<=u2.atom/\u2.atom<(a:Int))/\u2.atom.toNat+1<=a*1/\1<=2/\(0<=u1.head/\u1.head<(a:Int))/\u1.head.toNat+1<=a*1/\(decide (u5 > u6)=true->Wp Tryd.prog R 188 0 Rd.top (ah Tryd.prog 13) [1,1,1,1,1,1,1,0,1,0,0,1,1,0,0,1,1,0,0,1,1,0,0,1,1,0] (aq Tryd.prog R 188 0 Rd.top (ah Tryd.prog 13) Q [Kont.blk 13,Kont.seq [1,1,1,1,1,1,1,0,1,0,0,1,1,0,0,1,1,0,0,1,1,1]]) (St.mk [(5,ow true 1 a 1),(18,ref 2 0),(161,ae p.rules),u8,(163,int i64 (i:Int)),(168,am u1.body),(169,int i64 u3),(170,int i64 u7),(184,AV.bool (decide (u5 > u6)))] u4 g))/\(decide (u5 > u6)=false->(-9223372036854775808<=u7+1/\u7+1<=9223372036854775807)/\Q AEx.normal (St.mk [(5,ow true 1 a 1),(18,ref 2 0),(161,ae p.rules),u8,(163,int i64 (i:Int)),(168,am u1.body),(169,int i64 u3),(170,int i64 (u7+1))] u4 g)))/\(decide (u7<u3)=false->Q (AEx.exit 12) (St.mk [(5,ow true 1 a 1),(18,ref 2 0),(161,ae p.rules),u8,(163,int i64 (i:Int)),(168,am u1.body),(169,int i64 u3),(170,int i64 u7),(171,AV.bool (decide (u7<u3)))] [cells false 2 (nth [int i64 (a:Int),ae p.rules]),cells false (a*1) fun (a:Nat)=>af v a,cells false 2 (nth [int i64 u1.head,am u1.body])] g))) ((162,int i64 (p.rules.l.length:Int)))) ((k:Int))) (v.getD (u1.head.toNat) 0)) (v.getD (u2.atom.toNat) 0)) ([cells false 2 (nth [int i64 (a:Int),ae p.rules]),cells false (a*1) fun (a:Nat)=>af v a,cells false 2 (nth [int i64 u1.head,am u1.body]),cells false 2 (nth [int i64 u2.atom,AV.bool u2.neg])])) ((u1.body.l.length:Int))) (u1.body.l.getD k default)) (p.rules.l.getD i default)) (fun _=>by kernel_rfl) ⟨fun c1=>have c1:(k:Int)<(↑((p.rules.l.getD i default).body.l.length):Int):=(of_decide_eq_true c1);⟨by omega,by omega,by omega,(fun c hc=>match c,hc with|0,_=>(by kernel_rfl)|1,_=>(by kernel_rfl) ),by kernel_rfl,by omega,by omega,by omega,by omega,by omega,by omega,fun hcc=>(nomatch (hkn5.symm.trans hcc)),fun _=>⟨by omega,?_⟩⟩,fun c1=>have c1:¬(k:Int)<(↑((p.rules.l.getD i default).body.l.length):Int):=(of_decide_eq_false c1);?_⟩
           ·refine(aX (k+1) (bo [0,1,2] 4 rfl rfl rfl rfl rfl ⟨Le.refl _,Le.refl _,Le.refl _,Le.refl _,Le.refl _,Le.refl _,Le.refl _,Le.refl _,trivial⟩ ⟨⟨rfl,Nat.le_refl _,fun j hj=>match j,hj with|0,_=>(Le.refl _)|1,_=>(Le.refl _) ⟩,?_,⟨rfl,Nat.le_refl _,fun j hj=>match j,hj with|0,_=>(Le.refl _)|1,_=>(Le.refl _) ⟩,trivial⟩) ?_ ?_)
            ·exact⟨rfl,Nat.le_refl _,fun j _=>Le.of_eq rfl⟩
            ·omega
            ·omega
           ·exfalso;omega
          ·have hke:k=(p.rules.l.getD i default).body.l.length:=by omega
           subst hke
           have hbb:decide (((p.rules.l.getD i default).body.l.length:Int)<((p.rules.l.getD i default).body.l.length:Int))=false:=decide_eq_false (by omega)
           refine vcQ [[1,1,1,1,1,1,1,0,1,0,0,1,1,0,0,1,1,0,0,1,0,0]] (lkL [(43,[5,18,161,162,163,168,169,170,171])]) (fun _=>[]) (fun Q=>(fun (u1:Int)=>(fun (u2:St R.σ)=>(decide (u1<u1)=true->Wp Tryd.prog R 188 0 Rd.top (ah Tryd.prog 13) [1,1,1,1,1,1,1,0,1,0,0,1,1,0,0,1,1,0,0,1,0,0] (aq Tryd.prog R 188 0 Rd.top (ah Tryd.prog 13) Q [Kont.seq [1,1,1,1,1,1,1,0,1,0,0,1,1,0,0,1,1,0,0,1,1]]) u2)/\(decide (u1<u1)=false->Q (AEx.exit 12) u2)) (St.mk [(5,ow true 1 a 1),(18,ref 2 0),(161,ae p.rules),(162,int i64 (p.rules.l.length:Int)),(163,int i64 (i:Int)),(168,am (p.rules.l.getD i default).body),(169,int i64 u1),(170,int i64 u1),(171,AV.bool (decide (u1<u1)))] [cells false 2 (nth [int i64 (a:Int),ae p.rules]),cells false (a*1) fun (a:Nat)=>af v a,cells false 2 (nth [int i64 (p.rules.l.getD i default).head,am (p.rules.l.getD i default).body])] g)) ((↑((p.rules.l.getD i default).body.l.length):Int))) (fun _=>by kernel_rfl) ⟨fun hcc=>(nomatch (hbb.symm.trans hcc)),fun _=>?_⟩
           refine⟨_,To.refl _,vcQ [] (lkL [(48,[5,161,162,163])]) (fun _=>[]) (fun Q=>(-9223372036854775808<=(i:Int)+1/\(i:Int)+1<=9223372036854775807)/\Q AEx.normal (St.mk [(5,ow true 1 a 1),(161,ae p.rules),(162,int i64 (p.rules.l.length:Int)),(163,int i64 ((i:Int)+1))] [cells false 2 (nth [int i64 (a:Int),ae p.rules]),cells false (a*1) fun (a:Nat)=>af v a,cells false 2 (nth [int i64 (p.rules.l.getD i default).head,am (p.rules.l.getD i default).body])] g)) (fun _=>by kernel_rfl) ⟨by omega,?_⟩⟩
           refine(aX (i+1) (bo [0,1] 3 rfl rfl rfl rfl rfl ⟨Le.refl _,Le.refl _,Le.refl _,Le.refl _,trivial⟩ ⟨⟨rfl,Nat.le_refl _,fun j hj=>match j,hj with|0,_=>(Le.refl _)|1,_=>(Le.refl _) ⟩,?_,trivial⟩) ?_ ?_)
           ·exact⟨rfl,Nat.le_refl _,fun j _=>Le.of_eq rfl⟩
           ·omega
           ·omega
        ·exfalso;omega
       ·have hie:i=p.rules.l.length:=by omega
        subst hie
        have hbb:decide ((p.rules.l.length:Int)<(p.rules.l.length:Int))=false:=decide_eq_false (by omega)
        refine vcQ [[1,1,1,1,1,1,1,0,1,0,0,1,0,0]] (lkL [(40,[5,161,162,163,164])]) (fun _=>[]) (fun Q=>(fun (u1:Int)=>(fun (u2:St R.σ)=>(decide (u1<u1)=true->Wp Tryd.prog R 188 0 Rd.top (ah Tryd.prog 13) [1,1,1,1,1,1,1,0,1,0,0,1,0,0] (aq Tryd.prog R 188 0 Rd.top (ah Tryd.prog 13) Q [Kont.seq [1,1,1,1,1,1,1,0,1,0,0,1,1]]) u2)/\(decide (u1<u1)=false->Q (AEx.exit 10) u2)) (St.mk [(5,ow true 1 a 1),(161,ae p.rules),(162,int i64 u1),(163,int i64 u1),(164,AV.bool (decide (u1<u1)))] [cells false 2 (nth [int i64 (a:Int),ae p.rules]),cells false (a*1) fun (a:Nat)=>af v a] g)) ((p.rules.l.length:Int))) (fun _=>by kernel_rfl) ⟨fun hcc=>(nomatch (hbb.symm.trans hcc)),fun _=>?_⟩
        refine⟨_,To.refl _,vcQ [] (lkL [(49,[2])]) (lkL [(49,[(0,ROrc.kcall (AV.bool true))])]) (fun Q=>(fun (u1:List AObj)=>(true=true/\Does Tryd.prog R 15 [] u1 g (ret (AV.bool true)) u1 g)/\Q AEx.ret (St.mk [(2,AV.bool true)] u1 g)) ([cells false 2 (nth [int i64 (a:Int),ae p.rules]),cells false (a*1) fun (a:Nat)=>af v a])) (fun _=>by kernel_rfl) ⟨⟨rfl,(bc (T:=LT) inferInstance [] 2 (fun R _ g=>rh R g) rfl rfl rfl (by exact trivial) (by exact trivial) (by exact trivial) (by exact aC (by exact trivial)) (by exact⟨LeO.rflc,LeO.rflc,trivial⟩))⟩,?_⟩⟩
        refine(av (bE _ _ rfl trivial trivial rfl) (Le.refl _))
end Go.Avm.Pack
namespace Go.Proofs.YtbdagmhndndliaaDoor
open Go Go.Avm Go.Avm.Pack Go.WideShapes Go.ChangeShapes Go.ChangeAt
def xV (cs:Array Value):Obj->Obj
 |.cells _ t frozen=>.cells cs t frozen
 |o=>o
noncomputable def nr (os:Os):World:=
 { World.holding Tryd.prog os ⟨#[],#[],[]⟩ with heap:=(World.holding Tryd.prog os ⟨#[],#[],[]⟩).heap.modify 0 (xV #[.int .u8 0,.int .u8 1,.int .u8 56,.int .u8 2,.int .u8 57,.int .u8 49,.int .u8 28,.int .u8 3,.int .u8 61,.int .u8 58,.int .u8 42,.int .u8 50,.int .u8 38,.int .u8 29,.int .u8 17,.int .u8 4,.int .u8 62,.int .u8 47,.int .u8 59,.int .u8 36,.int .u8 45,.int .u8 43,.int .u8 51,.int .u8 22,.int .u8 53,.int .u8 39,.int .u8 33,.int .u8 30,.int .u8 24,.int .u8 18,.int .u8 12,.int .u8 5,.int .u8 63,.int .u8 55,.int .u8 48,.int .u8 27,.int .u8 60,.int .u8 41,.int .u8 37,.int .u8 16,.int .u8 46,.int .u8 35,.int .u8 44,.int .u8 21,.int .u8 52,.int .u8 32,.int .u8 23,.int .u8 11,.int .u8 54,.int .u8 26,.int .u8 40,.int .u8 15,.int .u8 34,.int .u8 20,.int .u8 31,.int .u8 10,.int .u8 25,.int .u8 14,.int .u8 19,.int .u8 9,.int .u8 13,.int .u8 8,.int .u8 7,.int .u8 6]) }
theorem xW (os:Os):laidMet Tryd.prog Rows.tableComponentsRow.laid ((nr os).forCall (fun _ _=>0) ⟨#[],#[.agg #[.int .i64 0,.slice none 0 0]],[]⟩).memory:=
 laidMet_of_run' 8 (by kernel_rfl) (by kernel_rfl)
theorem xX (os:Os){H:Type}(enc:TypeId × Value->H):∃places,DataW.whole enc Tryd.prog ((nr os).forCall (fun _ _=>0) ⟨#[],#[.agg #[.int .i64 0,.slice none 0 0]],[]⟩).memory Tryd.f13.params.toList Rows.tableComponentsSpec.vars false (#[.agg #[.int .i64 0,.slice none 0 0]]:Array Value).toList 8=some ([.agg [.lit (.int .i64 0),.nil]],[],places):=
 ⟨[],by kernel_rfl⟩
theorem xY (W:World)(h:laidMetH Tryd.prog Rows.tableComponentsRow.laid W):cC gsT (db W):=by
 have h:laidMet Tryd.prog [("math/bits.deBruijn64tab",Lib.tabData .u8 f7)] W:=h
 exact ua (t:=164) (e:=5) (n:=64) (by kernel_rfl) (by kernel_rfl) Tryd.underlying164 Tryd.underlying5 (by kernel_rfl) (by kernel_rfl) h (fun _=>t9)
set_option maxRecDepth 100000 in
theorem xZ (os:Os)(started:os.Started)(H:Type)(enc:TypeId × Value->H)(F:Stop.Interp) :
  ReturnsInHanded {} Tryd.checked os 13 .any ((OpenSpec.ofChange Rows.tableComponentsSpec).preRow enc Tryd.prog Tryd.f13 Rows.tableComponentsRow.domain Rows.tableComponentsRow.apart Rows.tableComponentsRow.laid) (((OpenSpec.ofChange Rows.tableComponentsSpec).at F).post enc Tryd.prog Tryd.f13 Rows.tableComponentsRow.apart Rows.tableComponentsRow.fresh Rows.tableComponentsRow.handsOn Rows.tableComponentsRow.again):=by
 obtain⟨places,hx⟩:=xX os enc
 exact ub (C:=Tryd.checked) (s:=Rows.tableComponentsSpec) (tb:=4) (gs:=gsT) (X:=fun l=>∃a:Prg,True/\∃l',(l'=[])/\l=aA a::l') (by kernel_rfl) started (by kernel_rfl) Tryd.func13
  (witness_row_at (enc:=enc) (C:=Tryd.checked) false (nr os) #[.agg #[.int .i64 0,.slice none 0 0]] rfl (by kernel_rfl) (by kernel_rfl) (by kernel_rfl)
   (OpenSpec.preRow_of_cond 8 hx (by kernel_rfl) (fun k hk=>by cases hk) (by kernel_rfl) (xW os)))
  rfl (fun ds h=>by
   match ds,h with
   |[_],_=>rfl) (by kernel_rfl)
  (fun t ht=>by
   have ht:t∈([24]:List Nat):=ht
   simp only[List.mem_cons,List.not_mem_nil,or_false] at ht
   subst ht;exact⟨by kernel_rfl,of_decide_eq_true (by kernel_rfl)⟩) rfl Tryd.underlying4 xY
  ((t3 xF t1))
  (fun avs ⟨a,ha,_,e0,e1⟩=>by
   subst e0 e1
   exact xU (Res.tab gsT) a ())
theorem x7:Rows.TableComponentsSaid:=
 OpenClaim.holds_of_cond 13 Tryd.f13 rfl rfl rfl rfl rfl rfl rfl ⟨rfl,rfl,rfl,rfl,rfl⟩ rfl rfl rfl rfl rfl (by kernel_rfl) Tryd.func13 (by kernel_rfl)
  (of_decide_eq_true (by kernel_rfl)) (by unfold Func.isWrapper;first|(rw[if_pos (by decide +kernel)];kernel_rfl)|(rw[if_neg (by decide +kernel)];exact⟨rfl,rfl⟩))
  (fun os started H enc _ F=>by rw[OpenClaim.pre_eq_preRow];exact xZ os started H enc F)
theorem x8 (f:FuncId)(fn:Func)(hf:Tryd.pinned.checked.prog.funcNamed "swingle/swinglelaw18.TableComponents"=some f)(hfn:Tryd.pinned.checked.prog.funcs[f]? = some fn) :
  true=Tryd.pinned.checked.prog.looks []/\∀(j:Nat) t,fn.params[j]? = some t->Tryd.pinned.checked.prog.wantsStandIn t=false:=by
 obtain rfl:f=13:=Option.some.inj ((show Tryd.prog.funcNamed "swingle/swinglelaw18.TableComponents"=some 13 by kernel_rfl).symm.trans hf) |>.symm
 obtain rfl:fn=Tryd.f13:=(Option.some.inj (Tryd.func13.symm.trans hfn)).symm
 refine⟨by kernel_rfl,fun j t ht=>?_⟩
 have hm:t∈(Tryd.f13.params).toList:=Array.mem_toList_iff.2 (Array.mem_of_getElem? ht)
 have hm:t∈([24]:List Nat):=hm
 simp only[List.mem_cons,List.not_mem_nil,or_false] at hm
 subst hm
 exact(show Tryd.prog.wantsStandIn 24=false by kernel_rfl)
theorem tableComponents_holds:Rows.TableComponentsCardSaid:=
 Claim7.holds_tied_plain_at .later [] _ _ _ _ x7 (fun _ h=>by cases h) (by kernel_rfl) (fun _ h=>by cases h) tableComponents_row_tie rfl ⟨rfl,rfl⟩ (by kernel_rfl) rfl x8 (by kernel_rfl)
#print axioms tableComponents_holds
end Go.Proofs.YtbdagmhndndliaaDoor
