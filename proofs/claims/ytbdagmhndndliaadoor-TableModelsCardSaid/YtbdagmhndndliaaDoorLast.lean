/- TableModels returns true, and leaves its arguments as they were. No conditions: every input that can be read as data. -/
import Derived.Test.YtbdagmhndndliaaDoorM5
namespace Go.Avm.Pack
open Go Go.Avm Go.Proofs
open Go.IntKind (i64 u64)
open Go.Avm.AV (int bool any fz fp sl ow ref fn ifc val agg tup)
open Go.Avm.AObj (cells dead)
open Go.Avm.Oc (ret)
set_option maxRecDepth 4000
theorem om {q:Nat->Bool}{n:Nat}:∀m,n<=m->((List.range m).filter fun j=>decide (j<n)&&q j)=(List.range n).filter q
 |0,h=>by
  obtain rfl:n=0:=by omega
  rfl
 |m+1,h=>by
  rw[List.range_succ,List.filter_append]
  rcases Nat.lt_or_ge m n with h1|h1
  ·obtain rfl:n=m+1:=by omega
   rw[List.range_succ,List.filter_append]
   congr 1
   ·refine List.filter_congr fun j hj=>?_
    rw[decide_eq_true (by have:=List.mem_range.1 hj;omega),Bool.true_and]
   ·refine List.filter_congr fun j hj=>?_
    rw[List.mem_singleton.1 hj,decide_eq_true omg,Bool.true_and]
  ·rw[om m h1]
   have:([m].filter fun j=>decide (j<n)&&q j)=[]:=by
    rw[List.filter_eq_nil_iff]
    intro j hj
    rw[List.mem_singleton.1 hj,decide_eq_false omg]
    simp
   rw[this,List.append_nil]
def bv (v:Nat->Int)(i:Nat):Nat:=((List.range i).filter fun j=>v j==3).length
theorem zT {v:Nat->Int}{i:Nat}:bv v (i+1)=bv v i+if v i=3 then 1 else 0:=by
 unfold bv
 rw[List.range_succ,List.filter_append,List.length_append]
 congr 1
 by_cases h:v i=3
 ·rw[if_pos h,List.filter_cons_of_pos (by rw[h];rfl)];rfl
 ·rw[if_neg h,List.filter_cons_of_neg (by simpa using h)];rfl
theorem zU {p:Prg}{v:Nat->Int}{n:Nat}(hv:(ai p).2=v)(hn:p.atoms.toNat=n)(h24:n<=24):(aB (cb p)).length=bv v n:=by
 rw[eS]
 have h:ak (cb p)=(List.range 24).filter fun j=>decide (j<n)&&(v j==3):=by
  show(List.range 24).filter _=_
  refine List.filter_congr fun j _=>?_
  unfold cb
  rw[hv,hn,ew]
  rfl
 rw[h,om 24 h24]
 rfl
theorem zV {v:Nat->Int}{n:Nat}(h:bv v n=0):∀j,j<n->v j≠3:=fun j hj e=>by
 have h1:=List.eq_nil_of_length_eq_zero h
 rw[List.filter_eq_nil_iff] at h1
 exact h1 j (List.mem_range.2 hj) (by rw[e];rfl)
theorem zW {l:List Int}{j:Nat}(h:j<l.length)(h0:0<=l.getD j 0)(c:Nat):decide ((c:Int)∈l.take (j+1))=if c=(l.getD j 0).toNat then true else decide ((c:Int)∈l.take j):=by
 have e:l.getD j 0=l[j]:=by rw[List.getD_eq_getElem?_getD,List.getElem?_eq_getElem h];rfl
 rw[List.take_add_one,List.getElem?_eq_getElem h]
 rw[e] at h0 ⊢
 by_cases hc:c=l[j].toNat
 ·rw[if_pos hc]
  exact decide_eq_true (List.mem_append.2 (.inr (by rw[hc];simp;omega)))
 ·rw[if_neg hc,Bool.eq_iff_iff,decide_eq_true_eq,decide_eq_true_eq,List.mem_append]
  exact⟨fun h=>h.elim id (fun h=>by
   have h:(c:Int)=l[j]:=by simpa using h
   omega),.inl⟩
def oo (k i:Nat):Bool:=IntKind.u32.wrap ((BitVec.ofInt 32 ((k:Int).fdiv (2^min i 32))&&&BitVec.ofInt 32 1).toNat:Int)==1
def byB (v:Nat->Int)(k i:Nat):Bool:=bif v i==2 then true else(bif v i==3 then oo k i else false)
def byL (v:Nat->Int)(k i:Nat):List Int:=((List.range i).filter (byB v k)).map fun (a:Nat)=>(a:Int)
theorem zX {v:Nat->Int}{k i:Nat}:byL v k (i+1)=if byB v k i then byL v k i++[(i:Int)] else byL v k i:=by
 unfold byL
 rw[List.range_succ,List.filter_append,List.map_append]
 cases h:byB v k i <;> simp[h]
theorem zY {v:Nat->Int}{k i:Nat}:(byL v k i).length<=i:=by
 unfold byL
 rw[List.length_map]
 exact Nat.le_trans (List.length_filter_le _ _) (by rw[List.length_range];exact Nat.le_refl _)
theorem zZ {v:Nat->Int}{n k:Nat}(hd:∀a,v a=1∨v a=2∨v a=3)(hn:n<=24):∃x:Nat,(∀j,x.testBit j=(decide (j<n)&&byB v k j))/\aB x=byL v k n/\∀j,(x.testBit j=true->j<n)/\(j<n->v j=2->x.testBit j=true)/\(v j=1->x.testBit j=false):=by
 have hx:∀j,(aD (fun j=>if byB v k j then 2 else 0) 2 n).testBit j=(decide (j<n)&&byB v k j):=fun j=>by
  rw[ew]
  congr 1
  cases byB v k j <;> rfl
 refine⟨_,hx,?_,fun j=>?_⟩
 ·have h:ak (aD (fun j=>if byB v k j then 2 else 0) 2 n)=(List.range n).filter (byB v k):=by
   show(List.range 24).filter _=_
   rw[<-om 24 hn]
   exact List.filter_congr fun j _=>hx j
  unfold aB byL
  rw[h]
 ·rw[hx,Bool.and_eq_true,decide_eq_true_eq]
  refine⟨fun h=>h.1,fun h e=>⟨h,?_⟩,fun e=>?_⟩
  ·unfold byB
   rw[e]
   rfl
  ·unfold byB
   rw[e,Bool.and_eq_false_iff]
   exact .inr rfl
theorem z1 {x y n:Nat}(hn:n<=24)(hx:∀j,x.testBit j=true->j<n)(hy:∀j,y.testBit j=true->j<n)(h:aB x=aB y):x=y:=
 Nat.eq_of_testBit_eq fun j=>by
  rw[Bool.eq_iff_iff]
  constructor
  ·intro e
   have h1:=gM.2 ⟨by have:=hx j e;omega,e⟩
   rw[h] at h1
   exact(gM.1 h1).2
  ·intro e
   have h1:=gM.2 ⟨by have:=hy j e;omega,e⟩
   rw[<-h] at h1
   exact(gM.1 h1).2
theorem z2 {L:List Nat}{x n:Nat}{Y:KL Int}(hn:n<=24)(hL:∀y,y∈L->∀j,y.testBit j=true->j<n)(hx:∀j,x.testBit j=true->j<n)(hY:aB x=Y.l):((List.range L.length).any fun i=>decide ((af (L.getD i 0)).l=Y.l))=decide (x∈L):=by
 rw[Bool.eq_iff_iff,List.any_eq_true,decide_eq_true_eq]
 constructor
 ·rintro ⟨i,hi,h⟩
  have hi:=List.mem_range.1 hi
  have h:aB (L.getD i 0)=Y.l:=of_decide_eq_true h
  have hm:=bO L 0 hi
  rw[<-z1 hn (hL _ hm) hx (h.trans hY.symm)]
  exact hm
 ·intro h
  obtain⟨i,hi,e⟩:=List.getElem_of_mem h
  refine⟨i,List.mem_range.2 hi,decide_eq_true ?_⟩
  show aB (L.getD i 0)=Y.l
  rw[List.getD_eq_getElem?_getD,List.getElem?_eq_getElem hi]
  exact(congrArg aB e).trans hY
def oq (n:Nat)(L:List Nat):Nat->AV
 |0=>.fz .nil 0 0 (fun _ _=>.any)
 |k+1=>bY (ay n (L.getD k 0))
theorem z3 (R:Res)[Tab LT R](p:Prg)(b:KL Int)(hq:QU b)(hbl:b.l.length<=9223372036854775807)(g:R.σ):Does Tryd.prog R 8 [av p,aI b] [] g (.ret (.bool true)) [] g:=by
 have hroom:aG=140737488355328:=rfl
 by_cases hfi:ec p=true/\aF p=true
 rotate_left
 ·have hF:∀(R:Res) (hp:List AObj) (g:R.σ),Does Tryd.prog R 35 [av p] hp g (.ret (.bool false)) hp g:=fun R hp g=>by
   have h:=qK R p hp g
   rw[show(ec p&&aF p)=false by
    cases h1:ec p <;> cases h2:aF p <;> first|rfl|exact absurd ⟨h1,h2⟩ hfi] at h
   exact h
  refine spW (nt:=244) (rs:=[.tmp 4]) (k0:=0) ?_
  refine vcR [[1,0,1,1]] (lkL [(0,[1,2]),(1,[1,2,30]),(2,[4])]) (lkL [(1,[(1,ROrc.pcall (AV.bool false))]),(2,[(0,ROrc.kcall (AV.bool true))])]) (fun Q=>(fun (u1:List AObj)=>2<=2/\(∀(hp:List AObj) (g:R.σ),true=true/\Does Tryd.prog R 35 [av p] hp g (ret (AV.bool false)) hp g)/\(true=true->(true=true/\Does Tryd.prog R 15 [] u1 g (ret (AV.bool true)) u1 g)/\Q AEx.ret (St.mk [(4,AV.bool true)] u1 g))/\(true=false->WpC Tryd.prog R 244 0 8 [1,0,1,1] Q [Kont.seq [1,1]] (St.mk [(1,aI b),(2,ref 0 0),(30,AV.bool true)] u1 g))) ([cO 2 (nth [i6 p.atoms,ae p.rules])])) ⟨omg,(fun _ _=>⟨rfl,(hF _ _ _)⟩),fun _=>⟨⟨rfl,(doT (T:=LT) [] 1 (fun R _ g=>nZ R g))⟩,?_⟩,fun h=>(nomatch h)⟩
  refine(aq (bA _ _ rfl trivial trivial rfl) (Af _))
 obtain⟨hsm,hb⟩:=hfi
 obtain⟨hl,hr,hp,hh,hx⟩:=eT hb
 have hp':1<=p.atoms/\p.atoms<=24:=hp
 obtain⟨n,hn⟩:∃n,p.atoms.toNat=n:=⟨_,rfl⟩
 have hpa:p.atoms=n:=by omega
 have hfin:=zz hp hr hh
 have hF:∀(R:Res) (hp:List AObj) (g:R.σ),Does Tryd.prog R 35 [av p] hp g (.ret (.bool true)) hp g:=fun R hp g=>by
  have h:=qK R p hp g
  rw[hsm,hb] at h
  exact h
 have hD:=fun (R:Res) [Tab LT R] (g:R.σ)=>rx R p hb g
 have hVl:(cU p (ai p).2).l.length=n:=by unfold cU;simp[hn]
 have hVg:∀j,j<n->(cU p (ai p).2).l.getD j 0=(ai p).2 j:=fun j hj=>by
  unfold cU
  rw[List.getD_eq_getElem?_getD,List.getElem?_map,List.getElem?_range omg]
  rfl
 obtain⟨V,hV⟩:∃V,cU p (ai p).2=V:=⟨_,rfl⟩
 obtain⟨v,hv⟩:∃v,(ai p).2=v:=⟨_,rfl⟩
 simp only[hV] at hD
 rw[hV] at hVl
 simp only[hV] at hVg
 simp only[hv] at hVg
 rw[hv] at hfin
 have hop:=zU hv hn omg
 have hst:=zL (most:=100) hv hn hfin.dom omg
 have hrn:=y8 hb
 rw[hn] at hrn
 have h1:=zM hfin hv hn omg hr hrn (most:=100) dcd
 have hFo:∀(R:Res) (hp:List AObj) (g:R.σ),Does Tryd.prog R 36 [av p,aj V] hp g (.ret (.bool true)) hp g:=fun R hp g=>zH R p V omg (fun x hx=>by
  obtain⟨j,hj,rfl⟩:=List.getElem_of_mem hx
  have e:V.l[j]=V.l.getD j 0:=by rw[List.getD_eq_getElem?_getD,List.getElem?_eq_getElem hj];rfl
  rw[e,hVg j omg]
  rcases hfin.dom j with e|e|e <;> omega) hp g
 obtain⟨L,hL⟩:∃L,stP p 100=L:=⟨_,rfl⟩
 have hA0:∀(R:Res) [Tab LT R] (g:R.σ),Does Tryd.prog R 27 [av p,.int .i64 100] [] g (.ret (.tup 2 (nth [bq (if 10<bv v n then 0 else L.length) (fun i=>af (L.getD i 0)),.int .i64 (if 10<bv v n then 8 else 0)]))) [] g:=fun R _ g=>by
  rw[<-hop,<-hL]
  by_cases h:10<(aB (cb p)).length
  ·rw[if_pos h,if_pos h]
   exact fM (yZ R p 100 hb omg h g) (toL (h1:=⟨Aj (fun j hj=>match j,hj with|0,_=>Le.nil_auto|1,_=>Af _),trivial⟩))
  ·rw[if_neg h,if_neg h]
   exact sc R p 100 hb omg omg g
 rw[hL] at hst h1
 have hLl:L.length<=100:=hst.len
 obtain⟨N,E,hNE,hA⟩:∃(N:Nat) (E:Int),(10<bv v n/\N=0/\E=8∨¬10<bv v n/\N=L.length/\E=0)/\∀(R:Res) [Tab LT R] (g:R.σ),Does Tryd.prog R 27 [av p,.int .i64 100] [] g (.ret (.tup 2 (nth [bq N (fun i=>af (L.getD i 0)),.int .i64 E]))) [] g:=by
  by_cases h10:10<bv v n
  ·simp only[if_pos h10] at hA0
   exact⟨0,8,.inl ⟨h10,rfl,rfl⟩,hA0⟩
  ·simp only[if_neg h10] at hA0
   exact⟨L.length,0,.inr ⟨h10,rfl,rfl⟩,hA0⟩
 clear hA0
 refine spW (nt:=244) (rs:=[.tmp 4]) (k0:=0) ?_
 refine vcR [[1,0,1,0]] (lkL [(0,[1,2]),(1,[1,2,30]),(3,[1,2,6,7]),(4,[1,2,6,7,8,9]),(5,[1,2,6,8,9,63]),(6,[4]),(7,[1,2,6,8,9,10]),(8,[1,2,6,8,9,10,64,65,66])]) (lkL [(1,[(1,ROrc.pcall (AV.bool true))]),(3,[(1,ROrc.kcall (tup 3 (nth [fz Fz.auto 2 (List.length (bm (ai p).fst).l) fun (i:Nat)=>dQ (List.getD (bm (ai p).fst).l i default),fz V.2 1 (List.length V.l) fun (i x:Nat)=>ac V.l i,i6 0])))]),(4,[(1,ROrc.kcall (tup 2 (nth [fz Fz.auto 1 N fun (i x:Nat)=>fz Fz.auto 1 (List.length (af (List.getD L i 0)).l) fun (i_1 x:Nat)=>ac (af (List.getD L i 0)).l i_1,i6 E])))]),(5,[(5,ROrc.pcall (AV.bool true))])]) (fun Q=>(fun (u1:List AObj)=>(fun (u2:AV)=>(fun (u3:AV)=>(fun (u4:Bool)=>2<=2/\(∀(hp:List AObj) (g:R.σ),true=true/\Does Tryd.prog R 35 [av p] hp g (ret (AV.bool true)) hp g)/\(false=true->WpC Tryd.prog R 244 0 8 [1,0,1,0] Q [Kont.seq [1,1]] (St.mk [(1,aI b),(2,ref 0 0),(30,AV.bool false)] u1 g))/\(false=false->2<=2/\(true=true/\Does Tryd.prog R 17 [av p] u1 g (ret (tup 3 (nth [fz Fz.auto 2 (List.length (bm (ai p).fst).l) fun i=>dQ (List.getD (bm (ai p).fst).l i default),u2,i6 0]))) u1 g)/\2<=2/\(true=true/\Does Tryd.prog R 27 [av p,i6 100] u1 g (ret (tup 2 (nth [u3,i6 E]))) u1 g)/\(true=true->2<=2)/\(true=true->∀(hp:List AObj) (g:R.σ),true=true/\Does Tryd.prog R 36 [av p,u2] hp g (ret (AV.bool true)) hp g)/\(u4=true->Q AEx.ret (St.mk [(4,AV.bool false)] u1 g))/\(u4=false->WpC Tryd.prog R 244 0 8 [1,1,1,1,1,1,0,1,0] Q [Kont.blk 0,Kont.seq [1,1,1,1,1,1,1]] (St.mk [(1,aI b),(2,ref 0 0),(6,u2),(8,u3),(9,i6 E),(10,i6 0),(64,u2),(65,i6 (↑(List.length V.l):Int)),(66,i6 0)] u1 g)))) (bif bif false then true else bif E != 0 then E != 8 else false then true else decide ((↑N:Int) > 100))) (fz Fz.auto 1 N fun i x=>fz Fz.auto 1 (List.length (af (List.getD L i 0)).l) fun i_1 x=>ac (af (List.getD L i 0)).l i_1)) (fz V.2 1 (List.length V.l) fun i x=>ac V.l i)) ([cO 2 (nth [i6 p.atoms,ae p.rules])])) ⟨omg,(fun _ _=>⟨rfl,(hF _ _ _)⟩),fun h=>(nomatch h),fun _=>⟨omg,⟨rfl,(doT (T:=LT) [] 1 (fun R _ g=>hD R g))⟩,omg,⟨rfl,(doT (T:=LT) [] 1 (fun R _ g=>hA R g))⟩,omg,(fun hgd=>(fun _ _=>⟨rfl,(hFo _ _ _)⟩)),fun c1=>have c1:(false=true∨¬E=0/\¬E=8)∨(↑N:Int) > 100:=((cY c1).imp (fun h=>((cY h).imp (fun h=>h) (fun h=>⟨(bne_iff_ne.mp (bI h).1),(bne_iff_ne.mp (bI h).2)⟩))) (fun h=>(of_decide_eq_true h)));?_,fun c1=>have c1:(false=false/\(E=0∨E=8))/\¬(↑N:Int) > 100:=⟨⟨(bl (bl c1).1).1,((dF (bl (bl c1).1).2).imp (fun h=>(bne_eq_false_iff_eq.mp h)) (fun h=>(bne_eq_false_iff_eq.mp h)))⟩,(of_decide_eq_false (bl c1).2)⟩;?_⟩⟩
 ·exfalso
  rcases hNE with⟨_,h2,h3⟩|⟨_,h2,h3⟩
  ·rcases c1 with(h|h)|h
   ·cases h
   ·omega
   ·omega
  ·rcases c1 with(h|h)|h
   ·cases h
   ·omega
   ·omega
 refine(a8 krf (fun (i:Nat)=>⟨[(1,aI b),(2,ref 0 0),(6,fz V.2 1 (V.l.length) fun (i x:Nat)=>ac V.l i),(8,fz Fz.auto 1 N fun (i x:Nat)=>fz Fz.auto 1 ((af (L.getD i 0)).l.length) fun (i_1 x:Nat)=>ac (af (L.getD i 0)).l i_1),(9,i6 E),(10,.int .i64 (bv v i:Nat)),(64,fz V.2 1 (V.l.length) fun (i x:Nat)=>ac V.l i),(65,i6 (V.l.length:Int)),(66,.int .i64 i)],[cO 2 (nth [i6 p.atoms,ae p.rules])],g⟩) (fun (i:Nat)=>(i<=n/\bv v i<=i)) (fun (i:Nat)=>(n-i)) 0 (aO ⟨Af _,Af _,Af _,Af _,Af _,(Ag krf),Af _,Af _,(Ag krf),trivial⟩ rfl rfl) ?_ (fun i hi=>?_))
 ·exact⟨Nat.zero_le _,Nat.zero_le _⟩
 ·obtain⟨h2,h3⟩:=hi
  rcases Nat.lt_or_ge i n with hlt|hge
  ·have hvi:=hVg i hlt
   have hos:=zT (v:=v) (i:=i)
   refine vcR [] (lkL [(9,[1,2,6,8,9,10,64,65,66,67]),(10,[1,2,6,8,9,10,12,64,65,66]),(11,[1,2,6,8,9,10,64,65,66,71]),(12,[1,2,6,8,9,10,64,65,66]),(13,[1,2,6,8,9,10,64,65,66])]) (fun _=>[]) (fun Q=>(fun (u1:Nat × AV)=>(fun (u2:AV)=>(fun (u3:Int)=>(fun (u4:Int)=>(fun (u5:AObj)=>(fun (u6:Int)=>(decide (u4<u3)=true->(0<=u4/\u4<u3)/\1<=1/\((List.getD V.l i 0==3)=true->(-9223372036854775808<=u6+1/\u6+1<=9223372036854775807)/\(-9223372036854775808<=u4+1/\u4+1<=9223372036854775807)/\Q AEx.normal (St.mk [(1,aI b),(2,ref 0 0),(6,u2),u1,(9,i6 E),(10,i6 (u6+1)),(64,u2),(65,i6 u3),(66,i6 (u4+1))] [u5] g))/\((List.getD V.l i 0==3)=false->(-9223372036854775808<=u4+1/\u4+1<=9223372036854775807)/\Q AEx.normal (St.mk [(1,aI b),(2,ref 0 0),(6,u2),u1,(9,i6 E),(10,i6 u6),(64,u2),(65,i6 u3),(66,i6 (u4+1))] [u5] g)))/\(decide (u4<u3)=false->Q (AEx.exit 0) (St.mk [(1,aI b),(2,ref 0 0),(6,u2),u1,(9,i6 E),(10,i6 u6),(64,u2),(65,i6 u3),(66,i6 u4),(67,AV.bool (decide (u4<u3)))] [u5] g))) ((↑(bv v i):Int))) (cO 2 (nth [i6 p.atoms,ae p.rules]))) ((↑i:Int))) ((↑(List.length V.l):Int))) (fz V.2 1 (List.length V.l) fun i x=>ac V.l i)) ((8,fz Fz.auto 1 N fun i x=>fz Fz.auto 1 (List.length (af (List.getD L i 0)).l) fun i_1 x=>ac (af (List.getD L i 0)).l i_1))) ⟨fun c1=>have c1:(↑i:Int)<(↑(List.length V.l):Int):=(of_decide_eq_true c1);⟨omg,omg,fun c2=>have c2:List.getD V.l i 0=3:=(beq_iff_eq.mp c2);⟨omg,omg,?_⟩,fun c2=>have c2:¬List.getD V.l i 0=3:=(beq_eq_false_iff_ne.mp c2);⟨omg,?_⟩⟩,fun c1=>have c1:¬(↑i:Int)<(↑(List.length V.l):Int):=(of_decide_eq_false c1);?_⟩
   ·have e:v i=3:=by rw[<-hvi];exact c2
    rw[if_pos e] at hos
    refine(aQ (i+1) (aO ⟨Af _,Af _,Af _,Af _,Af _,(Ag ?_),Af _,Af _,(Ag krf),trivial⟩ rfl rfl) ?_ ?_)
    ·show AV.int _ _=AV.int _ _
     rw[hos]
     rfl
    ·omega
    ·omega
   ·have e:¬v i=3:=by rw[<-hvi];exact c2
    rw[if_neg e] at hos
    refine(aQ (i+1) (aO ⟨Af _,Af _,Af _,Af _,Af _,(Ag ?_),Af _,Af _,(Ag krf),trivial⟩ rfl rfl) ?_ ?_)
    ·rw[hos]
     rfl
    ·omega
    ·omega
   ·exfalso;omega
  ·obtain rfl:i=n:=by omega
   have hdl:decide ((i:Int)<(V.l.length:Int))=false:=decide_eq_false omg
   rcases hNE with⟨h10,rfl,rfl⟩|⟨h10,rfl,rfl⟩
   ·have hgt:decide (((bv v i:Nat):Int) > 10)=true:=decide_eq_true omg
    have hge:decide (((bv v i:Nat):Int)=0)=false:=decide_eq_false omg
    refine vcR [[1,1,1,1,1,1,0,1,0,0,1,0,0]] (lkL [(9,[1,2,6,8,9,10,64,65,66,67])]) (fun _=>[]) (fun Q=>(fun (u1:St R.σ)=>(fun (u2:Int)=>(decide ((↑i:Int)<u2)=true->WpC Tryd.prog R 244 0 8 [1,1,1,1,1,1,0,1,0,0,1,0,0] Q [Kont.seq [1,1,1,1,1,1,0,1,0,0,1,1]] u1)/\(decide ((↑i:Int)<u2)=false->Q (AEx.exit 0) u1)) ((↑(List.length V.l):Int))) (St.mk [(1,aI b),(2,ref 0 0),(6,fz V.2 1 (List.length V.l) fun i x=>ac V.l i),(8,fz Fz.auto 1 0 fun i x=>fz Fz.auto 1 (List.length (af (List.getD L i 0)).l) fun i_1 x=>ac (af (List.getD L i 0)).l i_1),(9,i6 8),(10,i6 (↑(bv v i):Int)),(64,fz V.2 1 (List.length V.l) fun i x=>ac V.l i),(65,i6 (↑(List.length V.l):Int)),(66,i6 (↑i:Int)),(67,AV.bool (decide ((↑i:Int)<(↑(List.length V.l):Int))))] [cO 2 (nth [i6 p.atoms,ae p.rules])] g)) ⟨fun hcc=>(nomatch (hdl.symm.trans hcc)),fun _=>?_⟩
    refine⟨_,Ar _,vcR [[1,1,1,1,1,1,1,1,0,1,1]] (lkL [(14,[1,2,6,8,9,88]),(15,[4]),(16,[1,2,6,8,90]),(17,[4])]) (lkL [(17,[(4,ROrc.kcall (AV.bool true))])]) (fun Q=>(fun (u1:List AObj)=>(fun (u2:Bool)=>(u2=true->Q AEx.ret (St.mk [(4,AV.bool false)] u1 g))/\(u2=false->(true=true->(true=true->true=true/\Does Tryd.prog R 15 [] u1 g (ret (AV.bool true)) u1 g)/\Q AEx.ret (St.mk [(4,AV.bool true)] u1 g))/\(true=false->WpC Tryd.prog R 244 0 8 [1,1,1,1,1,1,1,1,0,1,1] Q [Kont.seq [1,1,1,1,1,1,1,1,1]] (St.mk [(1,aI b),(2,ref 0 0),(6,fz V.2 1 (List.length V.l) fun i x=>ac V.l i),(8,fz Fz.auto 1 0 fun i x=>fz Fz.auto 1 (List.length (af (List.getD L i 0)).l) fun i_1 x=>ac (af (List.getD L i 0)).l i_1),(90,AV.bool true)] u1 g)))) (bif !true==decide ((↑(bv v i):Int) > 10) then true else bif (↑(bv v i):Int)==0 then true else false)) ([cO 2 (nth [i6 p.atoms,ae p.rules])])) ⟨fun c1=>have c1:(true==decide ((↑(bv v i):Int) > 10))=false∨(↑(bv v i):Int)=0/\true=true:=((cY c1).imp (fun h=>((Bool.not_eq_true' _).mp h)) (fun h=>⟨(beq_iff_eq.mp (bI h).1),(bI h).2⟩));?_,fun c1=>have c1:(true==decide ((↑(bv v i):Int) > 10))=true/\(¬(↑(bv v i):Int)=0∨true=false):=⟨((Bool.not_eq_false' _).mp (bl c1).1),((dF (bl c1).2).imp (fun h=>(beq_eq_false_iff_ne.mp h)) (fun h=>h))⟩;⟨fun _=>⟨(fun hgd=>⟨rfl,(doT (T:=LT) [] 1 (fun R _ g=>nZ R g))⟩),?_⟩,fun h=>(nomatch h)⟩⟩⟩
    ·exfalso
     rw[hgt] at c1
     rcases c1 with h|h
     ·cases h
     ·have:=h.1
      omega
    ·refine(aq (bA _ _ rfl trivial trivial rfl) (Af _))
   ·have hgt:decide (((bv v i:Nat):Int) > 10)=false:=decide_eq_false omg
    have h1L:bv v i=0->L.length=1:=fun h=>h1 (zV h)
    clear h1 hop
    refine vcR [[1,1,1,1,1,1,0,1,0,0,1,0,0]] (lkL [(9,[1,2,6,8,9,10,64,65,66,67])]) (fun _=>[]) (fun Q=>(fun (u1:St R.σ)=>(fun (u2:Int)=>(decide ((↑i:Int)<u2)=true->WpC Tryd.prog R 244 0 8 [1,1,1,1,1,1,0,1,0,0,1,0,0] Q [Kont.seq [1,1,1,1,1,1,0,1,0,0,1,1]] u1)/\(decide ((↑i:Int)<u2)=false->Q (AEx.exit 0) u1)) ((↑(List.length V.l):Int))) (St.mk [(1,aI b),(2,ref 0 0),(6,fz V.2 1 (List.length V.l) fun i x=>ac V.l i),(8,fz Fz.auto 1 (List.length L) fun i x=>fz Fz.auto 1 (List.length (af (List.getD L i 0)).l) fun i_1 x=>ac (af (List.getD L i 0)).l i_1),(9,i6 0),(10,i6 (↑(bv v i):Int)),(64,fz V.2 1 (List.length V.l) fun i x=>ac V.l i),(65,i6 (↑(List.length V.l):Int)),(66,i6 (↑i:Int)),(67,AV.bool (decide ((↑i:Int)<(↑(List.length V.l):Int))))] [cO 2 (nth [i6 p.atoms,ae p.rules])] g)) ⟨fun hcc=>(nomatch (hdl.symm.trans hcc)),fun _=>?_⟩
    refine⟨_,Ar _,vcR [[1,1,1,1,1,1,1,1,0,1,0]] (lkL [(14,[1,2,6,8,9,88]),(15,[4]),(16,[1,2,6,8,90]),(18,[1,2,6,8,13]),(19,[1,2,6,8,13,97,98,99])]) (fun _=>[]) (fun Q=>(fun (u1:AV)=>(fun (u2:Bool)=>(fun (u3:AObj)=>(fun (u4:AV)=>(u2=true->Q AEx.ret (St.mk [(4,AV.bool false)] [u3] g))/\(u2=false->(false=true->WpC Tryd.prog R 244 0 8 [1,1,1,1,1,1,1,1,0,1,0] Q [Kont.seq [1,1,1,1,1,1,1,1,1]] (St.mk [(1,aI b),(2,ref 0 0),(6,u4),(8,u1),(90,AV.bool false)] [u3] g))/\(false=false->WpC Tryd.prog R 244 0 8 [1,1,1,1,1,1,1,1,1,1,0,1,0] Q [Kont.blk 2,Kont.seq [1,1,1,1,1,1,1,1,1,1,1]] (St.mk [(1,aI b),(2,ref 0 0),(6,u4),(8,u1),(13,fz Fz.nil 0 0 fun x x_1=>any),(97,u1),(98,i6 (↑(List.length L):Int)),(99,i6 0)] [u3] g)))) (fz V.2 1 (List.length V.l) fun i x=>ac V.l i)) (cO 2 (nth [i6 p.atoms,ae p.rules]))) (bif !false==decide ((↑(bv v i):Int) > 10) then true else bif (↑(bv v i):Int)==0 then(↑(List.length L):Int) != 1 else false)) (fz Fz.auto 1 (List.length L) fun i x=>fz Fz.auto 1 (List.length (af (List.getD L i 0)).l) fun i_1 x=>ac (af (List.getD L i 0)).l i_1)) ⟨fun c1=>have c1:(false==decide ((↑(bv v i):Int) > 10))=false∨(↑(bv v i):Int)=0/\¬(↑(List.length L):Int)=1:=((cY c1).imp (fun h=>((Bool.not_eq_true' _).mp h)) (fun h=>⟨(beq_iff_eq.mp (bI h).1),(bne_iff_ne.mp (bI h).2)⟩));?_,fun c1=>have c1:(false==decide ((↑(bv v i):Int) > 10))=true/\(¬(↑(bv v i):Int)=0∨(↑(List.length L):Int)=1):=⟨((Bool.not_eq_false' _).mp (bl c1).1),((dF (bl c1).2).imp (fun h=>(beq_eq_false_iff_ne.mp h)) (fun h=>(bne_eq_false_iff_eq.mp h)))⟩;⟨fun h=>(nomatch h),fun _=>?_⟩⟩⟩
    ·exfalso
     rw[hgt] at c1
     rcases c1 with h|h
     ·cases h
     ·have:=h1L omg
      omega
    clear c1
    refine(a8 krf (fun (k:Nat)=>⟨[(1,aI b),(2,ref 0 0),(6,fz V.2 1 (V.l.length) fun (i x:Nat)=>ac V.l i),(8,fz Fz.auto 1 (L.length) fun (i x:Nat)=>fz Fz.auto 1 ((af (L.getD i 0)).l.length) fun (i_1 x:Nat)=>ac (af (L.getD i 0)).l i_1),(13,oq i L k),(97,fz Fz.auto 1 (L.length) fun (i x:Nat)=>fz Fz.auto 1 ((af (L.getD i 0)).l.length) fun (i_1 x:Nat)=>ac (af (L.getD i 0)).l i_1),(98,i6 (L.length:Int)),(99,.int .i64 k)],[cO 2 (nth [i6 p.atoms,ae p.rules])],g⟩) (fun (k:Nat)=>(k<=L.length)) (fun (k:Nat)=>(L.length-k)) 0 (aO ⟨Af _,Af _,Af _,Af _,Af _,Af _,Af _,(Ag krf),trivial⟩ rfl rfl) ?_ (fun k hi=>?_))
    ·exact Nat.zero_le _
    ·rcases Nat.lt_or_ge k L.length with hlt|hge
     ·have hxm:L.getD k 0∈L:=bO L 0 hlt
      have hfx:=hst.fix _ hxm
      have hbx:=hst.bit _ hxm
      have hbf:∀k',k=k'+1->bef (L.getD k' 0) (L.getD k 0):=fun k' e=>by
       have h:=List.pairwise_iff_getElem.1 hst.ord k' k omg hlt omg
       rw[List.getD_eq_getElem?_getD,List.getD_eq_getElem?_getD,List.getElem?_eq_getElem hlt,List.getElem?_eq_getElem omg]
       exact h
      obtain⟨x,hxe⟩:∃x,L.getD k 0=x:=⟨_,rfl⟩
      rw[hxe] at hfx hbx hbf
      have hme:∀j,j<(aB x).length->0<=(aB x).getD j 0/\(aB x).getD j 0<p.atoms/\x.testBit ((aB x).getD j 0).toNat=true:=fun j hj=>by
       have h:=lB _ (bO (aB x) 0 hj)
       have h2:=(hbx _).1 h.2.2
       exact⟨h.1,omg,h.2.2⟩
      have hms:∀j,0<j->j<(aB x).length->(aB x).getD (j-1) 0<(aB x).getD j 0:=fun j h0 hj=>by
       have h:=List.pairwise_iff_getElem.1 (sF x) (j-1) j omg hj omg
       rw[List.getD_eq_getElem?_getD,List.getD_eq_getElem?_getD,List.getElem?_eq_getElem hj,List.getElem?_eq_getElem omg]
       exact h
      have hm24:(aB x).length<=24:=by rw[eS];exact fV x
      have hmx:(af x).l.length=(aB x).length:=rfl
      have hkl:decide ((k:Int)<(L.length:Int))=true:=decide_eq_true omg
      obtain⟨la,hla⟩:∃a,oq i L k=a:=⟨_,rfl⟩
      rw[hla]
      refine vcR [[1,1,1,1,1,1,1,1,1,1,0,1,0,0,1,0,1]] (lkL [(20,[1,2,6,8,13,97,98,99,100]),(21,[1,2,6,8,13,15,97,98,99]),(22,[1,2,6,8,13,15,16,97,98,99]),(23,[1,2,6,8,13,15,16,97,98,99,106,107,108])]) (fun _=>[]) (fun Q=>(fun (u1:AV)=>(fun (u2:Int)=>(fun (u3:AV)=>(fun (u4:Int)=>(fun (u5:AV)=>(fun (u6:AObj)=>(decide (u4<u2)=true->(0<=u4/\u4<u2)/\1<=1/\1<=2/\0<=p.atoms/\p.atoms<=p.atoms/\p.atoms<=140737488355328/\Int.toNat p.atoms*1<=aG/\WpC Tryd.prog R 244 0 8 [1,1,1,1,1,1,1,1,1,1,0,1,0,0,1,1,0,0,1,1,0,1,0] Q [Kont.blk 4,Kont.seq [1,1,1,1,1,1,1,1,1,1,0,1,0,0,1,1,0,0,1,1,1],Kont.blk 3,Kont.seq [1,1,1,1,1,1,1,1,1,1,0,1,0,0,1,1,1]] (St.mk [(1,aI b),(2,ref 0 0),(6,u5),(8,u1),(13,la),(15,u3),(16,sl 1 0 (Int.toNat p.atoms) (Int.toNat p.atoms) true 1),(97,u1),(98,i6 u2),(99,i6 u4),(106,u3),(107,i6 (↑(List.length (af (List.getD L k 0)).l):Int)),(108,i6 0)] [u6,cO (Int.toNat p.atoms*1) fun j=>AV.bool false] g))/\(decide (u4<u2)=false->WpC Tryd.prog R 244 0 8 [1,1,1,1,1,1,1,1,1,1,0,1,0,0,1,0,1] Q [Kont.seq [1,1,1,1,1,1,1,1,1,1,0,1,0,0,1,1]] (St.mk [(1,aI b),(2,ref 0 0),(6,u5),(8,u1),(13,la),(97,u1),(98,i6 u2),(99,i6 u4),(100,AV.bool (decide (u4<u2)))] [u6] g))) (cO 2 (nth [i6 p.atoms,ae p.rules]))) (fz V.2 1 (List.length V.l) fun i x=>ac V.l i)) ((↑k:Int))) (fz Fz.auto 1 (List.length (af (List.getD L k 0)).l) fun i_1 x=>ac (af (List.getD L k 0)).l i_1)) ((↑(List.length L):Int))) (fz Fz.auto 1 (List.length L) fun i x=>fz Fz.auto 1 (List.length (af (List.getD L i 0)).l) fun i_1 x=>ac (af (List.getD L i 0)).l i_1)) ⟨fun _=>⟨omg,omg,omg,omg,omg,omg,omg,?_⟩,fun hcc=>(nomatch (hkl.symm.trans hcc))⟩
      rw[hxe,hn]
      refine b8 (toL (s':=⟨[(1,aI b),(2,.ref 0 0),(6,aj V),(8,bq L.length fun i=>af (L.getD i 0)),(13,la),(15,aj (af x)),(16,.ow true 1 i 1),(97,bq L.length fun i=>af (L.getD i 0)),(98,.int .i64 L.length),(99,.int .i64 k),(106,aj (af x)),(107,.int .i64 (af x).l.length),(108,.int .i64 0)],[cO 2 (nth [.int .i64 p.atoms,ae p.rules]),cO (i*1) (dI fun _=>false)],g⟩) (h1:=?_) (h2:=?_)) ?_
      ·exact⟨Af _,Af _,Af _,Af _,Af _,Af _,Ao omg,Af _,Af _,Af _,Af _,Af _,Af _,trivial⟩
      ·exact⟨Ai _,Ai _,trivial⟩
      refine(a8 krf (fun (j:Nat)=>⟨[(1,aI b),(2,ref 0 0),(6,fz V.2 1 (V.l.length) fun (i x:Nat)=>ac V.l i),(8,fz Fz.auto 1 (L.length) fun (i x:Nat)=>fz Fz.auto 1 ((af (L.getD i 0)).l.length) fun (i_1 x:Nat)=>ac (af (L.getD i 0)).l i_1),(13,la),(15,fz Fz.auto 1 ((af x).l.length) fun (i x_1:Nat)=>ac (af x).l i),(16,ow true 1 i 1),(97,fz Fz.auto 1 (L.length) fun (i x:Nat)=>fz Fz.auto 1 ((af (L.getD i 0)).l.length) fun (i_1 x:Nat)=>ac (af (L.getD i 0)).l i_1),(98,i6 (L.length:Int)),(99,i6 (k:Int)),(106,fz Fz.auto 1 ((af x).l.length) fun (i x_1:Nat)=>ac (af x).l i),(107,i6 (↑((af x).l.length):Int)),(108,.int .i64 j)],[cO 2 (nth [.int .i64 p.atoms,ae p.rules]),cO (i*1) (dI fun a=>decide ((a:Int)∈(aB x).take j))],g⟩) (fun (j:Nat)=>(j<=(aB x).length)) (fun (j:Nat)=>((aB x).length-j)) 0 (aO ⟨Af _,Af _,Af _,Af _,Af _,Af _,Af _,Af _,Af _,Af _,Af _,Af _,(Ag krf),trivial⟩ rfl rfl) ?_ (fun j hi=>?_))
      ·exact Nat.zero_le _
      ·rcases Nat.lt_or_ge j (aB x).length with hj|hj
       ·obtain⟨a1,a2,a3⟩:=hme j hj
        have a4:=hms j
        have hst1:=zW hj a1
        have b1:0<=(af x).l.getD j 0:=a1
        have b2:(af x).l.getD j 0<p.atoms:=a2
        have b4:0<j->(af x).l.getD ((j:Int)-1).toNat 0<(af x).l.getD j 0:=fun h=>by
         rw[show((j:Int)-1).toNat=j-1 by omega]
         exact a4 h hj
        refine vcR [] (lkL [(24,[1,2,6,8,13,15,16,97,98,99,106,107,108,109]),(25,[1,2,6,8,13,15,16,17,18,97,98,99,106,107,108]),(26,[1,2,6,8,13,15,16,18,97,98,99,106,107,108,133]),(27,[4]),(28,[1,2,6,8,13,15,16,97,98,99,106,107,108]),(29,[1,2,6,8,13,15,16,97,98,99,106,107,108])]) (fun _=>[]) (fun Q=>(fun (u1:Int)=>(fun (u2:AV)=>(fun (u3:Int)=>(fun (u4:Int)=>(fun (u5:Bool)=>(fun (u6:AV)=>(fun (u7:List AObj)=>(fun (u8:Int)=>(fun (u9:Bool)=>(fun (u10:AV)=>(decide (u4<u3)=true->(0<=u4/\u4<u3)/\1<=1/\((!decide (u1<0))=true->1<=2)/\((!u5&&decide (u4 > 0))=true -> -9223372036854775808<=u4-1/\u4-1<=9223372036854775807)/\((!u5&&decide (u4 > 0))=true->0<=u4-1/\u4-1<u3)/\((!u5&&decide (u4 > 0))=true->1<=1)/\(u9=true->Q AEx.ret (St.mk [(4,AV.bool false)] u7 g))/\(u9=false->(0<=u1/\u1<(↑i:Int))/\Int.toNat u1+1<=i*1/\(-9223372036854775808<=u4+1/\u4+1<=9223372036854775807)/\Q AEx.normal (St.mk [(1,aI b),(2,ref 0 0),(6,u10),(8,u2),(13,la),(15,u6),(16,ow true 1 i 1),(97,u2),(98,i6 (↑(List.length L):Int)),(99,i6 (↑k:Int)),(106,u6),(107,i6 u3),(108,i6 (u4+1))] [cO 2 (nth [i6 p.atoms,ae p.rules]),cO (i*1) (am (fun (a:Nat)=>AV.bool (decide ((↑a:Int)∈List.take j (aB x)))) (Int.toNat u1) 1 fun x=>AV.bool true)] g)))/\(decide (u4<u3)=false->Q (AEx.exit 4) (St.mk [(1,aI b),(2,ref 0 0),(6,u10),(8,u2),(13,la),(15,u6),(16,ow true 1 i 1),(97,u2),(98,i6 (↑(List.length L):Int)),(99,i6 (↑k:Int)),(106,u6),(107,i6 u3),(108,i6 u4),(109,AV.bool (decide (u4<u3)))] u7 g))) (fz V.2 1 (List.length V.l) fun i x=>ac V.l i)) (bif u5 then true else bif decide (u4 > 0) then decide (u1<=u8) else false)) (List.getD (af x).l (Int.toNat (u4-1)) 0)) ([cO 2 (nth [i6 p.atoms,ae p.rules]),cO (i*1) fun a=>AV.bool (decide ((↑a:Int)∈List.take j (aB x)))])) (fz Fz.auto 1 (List.length (af x).l) fun i x_1=>ac (af x).l i)) (bif decide (u1<0) then true else decide (u1 >= p.atoms))) ((↑j:Int))) ((↑(List.length (af x).l):Int))) (fz Fz.auto 1 (List.length L) fun i x=>fz Fz.auto 1 (List.length (af (List.getD L i 0)).l) fun i_1 x=>ac (af (List.getD L i 0)).l i_1)) (List.getD (af x).l j 0)) ⟨fun c1=>have c1:(↑j:Int)<(↑(List.length (af x).l):Int):=(of_decide_eq_true c1);⟨omg,omg,omg,omg,(by intro h;simp at h <;> omega),omg,fun c2=>have c2:(List.getD (af x).l j 0<0∨List.getD (af x).l j 0 >= p.atoms)∨(↑j:Int) > 0/\List.getD (af x).l j 0<=List.getD (af x).l (Int.toNat ((↑j:Int)-1)) 0:=((cY c2).imp (fun h=>((cY h).imp (fun h=>(of_decide_eq_true h)) (fun h=>(of_decide_eq_true h)))) (fun h=>⟨(of_decide_eq_true (bI h).1),(of_decide_eq_true (bI h).2)⟩));?_,fun c2=>have c2:(¬List.getD (af x).l j 0<0/\¬List.getD (af x).l j 0 >= p.atoms)/\(¬(↑j:Int) > 0∨¬List.getD (af x).l j 0<=List.getD (af x).l (Int.toNat ((↑j:Int)-1)) 0):=⟨⟨(of_decide_eq_false (bl (bl c2).1).1),(of_decide_eq_false (bl (bl c2).1).2)⟩,((dF (bl c2).2).imp (fun h=>(of_decide_eq_false h)) (fun h=>(of_decide_eq_false h)))⟩;⟨omg,omg,omg,?_⟩⟩,fun c1=>have c1:¬(↑j:Int)<(↑(List.length (af x).l):Int):=(of_decide_eq_false c1);?_⟩
        ·exfalso
         omega
        ·refine(aQ (j+1) (toL (h1:=⟨Af _,Af _,Af _,Af _,Af _,Af _,Af _,Af _,Af _,Af _,Af _,Af _,(Ag krf),trivial⟩) (h2:=⟨Ah,?_,trivial⟩)) ?_ ?_)
         ·exact⟨rfl,Nat.le_refl _,fun c hc=>Ag (sB hst1)⟩
         ·omega
         ·omega
        ·exfalso;omega
       ·have hje:j=(aB x).length:=by omega
        subst hje
        have hdj:decide (((aB x).length:Int)<((af x).l.length:Int))=false:=decide_eq_false (by show ¬((aB x).length:Int)<((aB x).length:Int);omega)
        refine vcR [[1,1,1,1,1,1,1,1,1,1,0,1,0,0,1,1,0,0,1,1,0,1,0,0,1,0,0]] (lkL [(24,[1,2,6,8,13,15,16,97,98,99,106,107,108,109])]) (fun _=>[]) (fun Q=>(fun (u1:St R.σ)=>(fun (u2:Int)=>(fun (u3:Int)=>(decide (u3<u2)=true->WpC Tryd.prog R 244 0 8 [1,1,1,1,1,1,1,1,1,1,0,1,0,0,1,1,0,0,1,1,0,1,0,0,1,0,0] Q [Kont.seq [1,1,1,1,1,1,1,1,1,1,0,1,0,0,1,1,0,0,1,1,0,1,0,0,1,1]] u1)/\(decide (u3<u2)=false->Q (AEx.exit 4) u1)) ((↑(List.length (aB x)):Int))) ((↑(List.length (af x).l):Int))) (St.mk [(1,aI b),(2,ref 0 0),(6,fz V.2 1 (List.length V.l) fun i x=>ac V.l i),(8,fz Fz.auto 1 (List.length L) fun i x=>fz Fz.auto 1 (List.length (af (List.getD L i 0)).l) fun i_1 x=>ac (af (List.getD L i 0)).l i_1),(13,la),(15,fz Fz.auto 1 (List.length (af x).l) fun i x_1=>ac (af x).l i),(16,ow true 1 i 1),(97,fz Fz.auto 1 (List.length L) fun i x=>fz Fz.auto 1 (List.length (af (List.getD L i 0)).l) fun i_1 x=>ac (af (List.getD L i 0)).l i_1),(98,i6 (↑(List.length L):Int)),(99,i6 (↑k:Int)),(106,fz Fz.auto 1 (List.length (af x).l) fun i x_1=>ac (af x).l i),(107,i6 (↑(List.length (af x).l):Int)),(108,i6 (↑(List.length (aB x)):Int)),(109,AV.bool (decide ((↑(List.length (aB x)):Int)<(↑(List.length (af x).l):Int))))] [cO 2 (nth [i6 p.atoms,ae p.rules]),cO (i*1) fun a=>AV.bool (decide ((↑a:Int)∈List.take (List.length (aB x)) (aB x)))] g)) ⟨fun hcc=>(nomatch (hdj.symm.trans hcc)),fun _=>?_⟩
        refine⟨_,Ar _,vcR [] (lkL [(30,[1,2,6,8,13,16,97,98,99,138,139,140])]) (fun _=>[]) (fun (Q:AEx->St R.σ->Prop)=>WpC Tryd.prog R 244 0 8 [1,1,1,1,1,1,1,1,1,1,0,1,0,0,1,1,0,0,1,1,1,0,1,0] Q [Kont.blk 6,Kont.seq [1,1,1,1,1,1,1,1,1,1,0,1,0,0,1,1,0,0,1,1,1,1]] (St.mk [(1,aI b),(2,ref 0 0),(6,fz V.2 1 (List.length V.l) fun (i x:Nat)=>ac V.l i),(8,fz Fz.auto 1 (List.length L) fun (i x:Nat)=>fz Fz.auto 1 (List.length (af (List.getD L i 0)).l) fun (i_1 x:Nat)=>ac (af (List.getD L i 0)).l i_1),(13,la),(16,ow true 1 i 1),(97,fz Fz.auto 1 (List.length L) fun (i x:Nat)=>fz Fz.auto 1 (List.length (af (List.getD L i 0)).l) fun (i_1 x:Nat)=>ac (af (List.getD L i 0)).l i_1),(98,i6 (↑(List.length L):Int)),(99,i6 (↑k:Int)),(138,fz V.2 1 (List.length V.l) fun (i x:Nat)=>ac V.l i),(139,i6 (↑(List.length V.l):Int)),(140,i6 0)] [cO 2 (nth [i6 p.atoms,ae p.rules]),cO (i*1) fun (a:Nat)=>AV.bool (decide ((↑a:Int)∈List.take (List.length (aB x)) (aB x)))] g)) (?_)⟩
        refine b8 (toL (s':=⟨[(1,aI b),(2,.ref 0 0),(6,aj V),(8,bq L.length fun i=>af (L.getD i 0)),(13,la),(16,.ow true 1 i 1),(97,bq L.length fun i=>af (L.getD i 0)),(98,.int .i64 L.length),(99,.int .i64 k),(138,aj V),(139,.int .i64 V.l.length),(140,.int .i64 0)],[cO 2 (nth [.int .i64 p.atoms,ae p.rules]),cO (i*1) (dI fun a=>x.testBit a)],g⟩) (h1:=?_) (h2:=?_)) ?_
        ·exact⟨Af _,Af _,Af _,Af _,Af _,Af _,Af _,Af _,Af _,Af _,Af _,Af _,trivial⟩
        ·refine⟨Ai _,⟨rfl,Nat.le_refl _,fun a ha=>Ag ?_⟩,trivial⟩
         show AV.bool _=AV.bool _
         congr 1
         rw[List.take_length,Bool.eq_iff_iff,decide_eq_true_eq,gM]
         exact⟨fun h=>h.2,fun h=>⟨by have:=(hbx a).1 h;omega,h⟩⟩
        refine(a8 krf (fun (a:Nat)=>⟨[(1,aI b),(2,ref 0 0),(6,fz V.2 1 (V.l.length) fun (i x:Nat)=>ac V.l i),(8,fz Fz.auto 1 (L.length) fun (i x:Nat)=>fz Fz.auto 1 ((af (L.getD i 0)).l.length) fun (i_1 x:Nat)=>ac (af (L.getD i 0)).l i_1),(13,la),(16,ow true 1 i 1),(97,fz Fz.auto 1 (L.length) fun (i x:Nat)=>fz Fz.auto 1 ((af (L.getD i 0)).l.length) fun (i_1 x:Nat)=>ac (af (L.getD i 0)).l i_1),(98,i6 (L.length:Int)),(99,i6 (k:Int)),(138,fz V.2 1 (V.l.length) fun (i x:Nat)=>ac V.l i),(139,i6 (V.l.length:Int)),(140,.int .i64 a)],[cO 2 (nth [i6 p.atoms,ae p.rules]),cO (i*1) fun (a:Nat)=>AV.bool (Nat.testBit x a)],g⟩) (fun (a:Nat)=>(a<=i)) (fun (a:Nat)=>(i-a)) 0 (aO ⟨Af _,Af _,Af _,Af _,Af _,Af _,Af _,Af _,Af _,Af _,Af _,(Ag krf),trivial⟩ rfl rfl) ?_ (fun a hi=>?_))
        ·exact Nat.zero_le _
        ·rcases Nat.lt_or_ge a i with ha|ha
         ·have hva:=hVg a ha
          obtain⟨_,d2,d3⟩:=hbx a
          refine vcR [] (lkL [(31,[1,2,6,8,13,16,97,98,99,138,139,140,141]),(32,[1,2,6,8,13,16,19,20,97,98,99,138,139,140]),(33,[1,2,6,8,13,16,97,98,99,138,139,140,163]),(34,[4]),(35,[1,2,6,8,13,16,97,98,99,138,139,140])]) (fun _=>[]) (fun Q=>(fun (u1:AV)=>(fun (u2:List AObj)=>(fun (u3:Int)=>(fun (u4:Bool)=>(fun (u5:AV)=>(fun (u6:Int)=>(fun (u7:Bool)=>(decide (u6<u3)=true->(0<=u6/\u6<u3)/\1<=1/\((List.getD V.l a 0==2)=true->0<=u6/\u6<(↑i:Int))/\((List.getD V.l a 0==2)=true->a+1<=i*1)/\((!u4&&List.getD V.l a 0==1)=true->0<=u6/\u6<(↑i:Int))/\((!u4&&List.getD V.l a 0==1)=true->a+1<=i*1)/\(u7=true->Q AEx.ret (St.mk [(4,AV.bool false)] u2 g))/\(u7=false->(-9223372036854775808<=u6+1/\u6+1<=9223372036854775807)/\Q AEx.normal (St.mk [(1,aI b),(2,ref 0 0),(6,u5),(8,u1),(13,la),(16,ow true 1 i 1),(97,u1),(98,i6 (↑(List.length L):Int)),(99,i6 (↑k:Int)),(138,u5),(139,i6 u3),(140,i6 (u6+1))] u2 g)))/\(decide (u6<u3)=false->Q (AEx.exit 6) (St.mk [(1,aI b),(2,ref 0 0),(6,u5),(8,u1),(13,la),(16,ow true 1 i 1),(97,u1),(98,i6 (↑(List.length L):Int)),(99,i6 (↑k:Int)),(138,u5),(139,i6 u3),(140,i6 u6),(141,AV.bool (decide (u6<u3)))] u2 g))) (bif u4 then true else bif List.getD V.l a 0==1 then Nat.testBit x a else false)) ((↑a:Int))) (fz V.2 1 (List.length V.l) fun i x=>ac V.l i)) (bif List.getD V.l a 0==2 then !Nat.testBit x a else false)) ((↑(List.length V.l):Int))) ([cO 2 (nth [i6 p.atoms,ae p.rules]),cO (i*1) fun a=>AV.bool (Nat.testBit x a)])) (fz Fz.auto 1 (List.length L) fun i x=>fz Fz.auto 1 (List.length (af (List.getD L i 0)).l) fun i_1 x=>ac (af (List.getD L i 0)).l i_1)) ⟨fun c1=>have c1:(↑a:Int)<(↑(List.length V.l):Int):=(of_decide_eq_true c1);⟨omg,omg,omg,omg,omg,omg,fun c2=>have c2:List.getD V.l a 0=2/\Nat.testBit x a=false∨List.getD V.l a 0=1/\Nat.testBit x a=true:=((cY c2).imp (fun h=>⟨(beq_iff_eq.mp (bI h).1),((Bool.not_eq_true' _).mp (bI h).2)⟩) (fun h=>⟨(beq_iff_eq.mp (bI h).1),(bI h).2⟩));?_,fun c2=>have c2:(¬List.getD V.l a 0=2∨Nat.testBit x a=true)/\(¬List.getD V.l a 0=1∨Nat.testBit x a=false):=⟨((dF (bl c2).1).imp (fun h=>(beq_eq_false_iff_ne.mp h)) (fun h=>((Bool.not_eq_false' _).mp h))),((dF (bl c2).2).imp (fun h=>(beq_eq_false_iff_ne.mp h)) (fun h=>h))⟩;⟨omg,?_⟩⟩,fun c1=>have c1:¬(↑a:Int)<(↑(List.length V.l):Int):=(of_decide_eq_false c1);?_⟩
          ·exfalso
           rw[hva] at c2
           rcases c2 with⟨e1,e2⟩|⟨e1,e2⟩
           ·rw[d2 ha e1] at e2
            cases e2
           ·rw[d3 e1] at e2
            cases e2
          ·refine(aQ (a+1) (aO ⟨Af _,Af _,Af _,Af _,Af _,Af _,Af _,Af _,Af _,Af _,Af _,(Ag krf),trivial⟩ rfl rfl) ?_ ?_)
           ·omega
           ·omega
          ·exfalso;omega
         ·obtain rfl:a=i:=by omega
          have hda:decide ((a:Int)<(V.l.length:Int))=false:=decide_eq_false omg
          have hxl:(ay a x).length=a:=lC
          have hxg:∀j,(ay a x).getD j false=x.testBit j:=fun j=>fZ fun j=>(hbx j).1
          have hF1:=fun (R:Res) (g:R.σ)=>sx R p (ay a x) a omg hxl hpa hl hrn g
          have hS1:=fun (R:Res) (g:R.σ)=>sw R (foR p (ay a x) a) (ay a x) a (sy fun r hr=>by have:=(hrn r hr).2;omega) hxl omg g
          rw[oa (p:=p) (n:=a) (s:=x) omg hr (fun r h=>by have:=(hrn r h).2;omega) (fun j=>(hbx j).1),decide_eq_true hfx] at hS1
          have hlb:Below 1 la:=by
           rw[<-hla]
           cases k <;> trivial
          refine b8 (mZ 1 [(1,aI b),(2,.ref 0 0),(6,aj V),(8,bq L.length fun i=>af (L.getD i 0)),(13,la),(16,bY (ay a x)),(97,bq L.length fun i=>af (L.getD i 0)),(98,.int .i64 L.length),(99,.int .i64 k),(138,aj V),(139,.int .i64 V.l.length),(140,.int .i64 a)] [cO 2 (nth [.int .i64 p.atoms,ae p.rules])] (Nat.zero_le _) (by show 1<=2;omega) rfl (fun i hi=>match i,hi with
           |0,_=>⟨rfl,rfl,fun j hj=>match j,hj with|0,_=>Am trivial|1,_=>Am trivial⟩) ⟨Am trivial,Am (show 0<1 by omega),Am trivial,Am trivial,Am hlb,sC (o:=1) hxl (fun j _=>hxg j) rfl omg,Am trivial,Am trivial,Am trivial,Am trivial,Am trivial,Am trivial,trivial⟩) ?_
          rcases Nat.eq_zero_or_pos k with hk|hk
          ·have hl0:la=.fz .nil 0 0 (fun _ _=>.any):=by rw[<-hla,hk];rfl
           rw[hl0]
           refine vcR [[1,1,1,1,1,1,1,1,1,1,0,1,0,0,1,1,0,0,1,1,1,0,1,0,0,1,0,0]] (lkL [(31,[1,2,6,8,13,16,97,98,99,138,139,140,141])]) (fun _=>[]) (fun Q=>(fun (u1:St R.σ)=>(fun (u2:Int)=>(decide ((↑a:Int)<u2)=true->WpC Tryd.prog R 244 0 8 [1,1,1,1,1,1,1,1,1,1,0,1,0,0,1,1,0,0,1,1,1,0,1,0,0,1,0,0] Q [Kont.seq [1,1,1,1,1,1,1,1,1,1,0,1,0,0,1,1,0,0,1,1,1,0,1,0,0,1,1]] u1)/\(decide ((↑a:Int)<u2)=false->Q (AEx.exit 6) u1)) ((↑(List.length V.l):Int))) (St.mk [(1,aI b),(2,ref 0 0),(6,fz V.2 1 (List.length V.l) fun i x=>ac V.l i),(8,fz Fz.auto 1 (List.length L) fun i x=>fz Fz.auto 1 (List.length (af (List.getD L i 0)).l) fun i_1 x=>ac (af (List.getD L i 0)).l i_1),(13,fz Fz.nil 0 0 fun x x_1=>any),(16,fz Fz.auto 1 (List.length (ay a x)) fun i x_1=>aC (ay a x) i),(97,fz Fz.auto 1 (List.length L) fun i x=>fz Fz.auto 1 (List.length (af (List.getD L i 0)).l) fun i_1 x=>ac (af (List.getD L i 0)).l i_1),(98,i6 (↑(List.length L):Int)),(99,i6 (↑k:Int)),(138,fz V.2 1 (List.length V.l) fun i x=>ac V.l i),(139,i6 (↑(List.length V.l):Int)),(140,i6 (↑a:Int)),(141,AV.bool (decide ((↑a:Int)<(↑(List.length V.l):Int))))] [cO 2 (nth [i6 p.atoms,ae p.rules])] g)) ⟨fun hcc=>(nomatch (hda.symm.trans hcc)),fun _=>?_⟩
           refine⟨_,Ar _,vcR [[1,1,1,1,1,1,1,1,1,1,0,1,0,0,1,1,0,0,1,1,1,1,0,1,0]] (lkL [(36,[1,2,6,8,16,97,98,99,180]),(38,[1,2,6,8,13,97,98,99])]) (lkL [(36,[(2,ROrc.kcall (fz Fz.auto 1 (List.length (foR p (ay a x) a)) fun (i x_1:Nat)=>aC (foR p (ay a x) a) i)),(4,ROrc.kcall (AV.bool true)),(12,ROrc.pcall (AV.bool true))])]) (fun Q=>(fun (u1:AV)=>(fun (u2:AV)=>(fun (u3:List AObj)=>(fun (u4:AV)=>(fun (u5:AV)=>2<=2/\(true=true/\Does Tryd.prog R 38 [av p,u2] u3 g (ret u4) u3 g)/\(true=true/\Does Tryd.prog R 37 [u4,u2] u3 g (ret (AV.bool true)) u3 g)/\(false=true->∀(hp:List AObj) (g:R.σ),true=true/\Does Tryd.prog R 39 [fz Fz.nil 0 0 fun x x_1=>any,u2] hp g (ret (AV.bool true)) hp g)/\(false=true->WpC Tryd.prog R 244 0 8 [1,1,1,1,1,1,1,1,1,1,0,1,0,0,1,1,0,0,1,1,1,1,0,1,0] Q [Kont.seq [1,1,1,1,1,1,1,1,1,1,0,1,0,0,1,1,0,0,1,1,1,1,1]] (St.mk [(1,aI b),(2,ref 0 0),(6,u5),(8,u1),(16,u2),(97,u1),(98,i6 (↑(List.length L):Int)),(99,i6 (↑k:Int)),(180,AV.bool false)] u3 g))/\(false=false->Q AEx.normal (St.mk [(1,aI b),(2,ref 0 0),(6,u5),(8,u1),(13,u2),(97,u1),(98,i6 (↑(List.length L):Int)),(99,i6 (↑k:Int))] u3 g))) (fz V.2 1 (List.length V.l) fun i x=>ac V.l i)) (fz Fz.auto 1 (List.length (foR p (ay a x) a)) fun i x_1=>aC (foR p (ay a x) a) i)) ([cO 2 (nth [i6 p.atoms,ae p.rules])])) (fz Fz.auto 1 (List.length (ay a x)) fun i x_1=>aC (ay a x) i)) (fz Fz.auto 1 (List.length L) fun i x=>fz Fz.auto 1 (List.length (af (List.getD L i 0)).l) fun i_1 x=>ac (af (List.getD L i 0)).l i_1)) ⟨omg,⟨rfl,(doT (T:=LT) [] 1 (fun R _ g=>hF1 R g))⟩,⟨rfl,(doT (T:=LT) [] 1 (fun R _ g=>hS1 R g))⟩,(by intro h;simp at h <;> omega),fun h=>(nomatch h),fun _=>?_⟩⟩
           refine vcR [] (lkL [(39,[1,2,6,8,13,97,98,99])]) (fun _=>[]) (fun Q=>(fun (u1:AV)=>(-9223372036854775808<=(↑k:Int)+1/\(↑k:Int)+1<=9223372036854775807)/\Q AEx.normal (St.mk [(1,aI b),(2,ref 0 0),(6,fz V.2 1 (List.length V.l) fun i x=>ac V.l i),(8,u1),(13,fz Fz.auto 1 (List.length (ay a x)) fun i x_1=>aC (ay a x) i),(97,u1),(98,i6 (↑(List.length L):Int)),(99,i6 ((↑k:Int)+1))] [cO 2 (nth [i6 p.atoms,ae p.rules])] g)) (fz Fz.auto 1 (List.length L) fun i x=>fz Fz.auto 1 (List.length (af (List.getD L i 0)).l) fun i_1 x=>ac (af (List.getD L i 0)).l i_1)) ⟨omg,?_⟩
           refine(aQ (k+1) (aO ⟨Af _,Af _,Af _,Af _,(Ag ?_),Af _,Af _,(Ag krf),trivial⟩ rfl rfl) ?_ ?_)
           ·show bY (ay a x)=bY (ay a (L.getD k 0))
            rw[hxe]
           ·omega
           ·omega
          ·obtain⟨k',hk'⟩:∃k',k=k'+1:=⟨k-1,omg⟩
           have hl0:la=bY (ay a (L.getD k' 0)):=by rw[<-hla,hk'];rfl
           rw[hl0]
           obtain⟨m,e1,e2,e3⟩:=hbf k' hk'
           have hby:=hst.bit _ (bO L 0 (show k'<L.length by omega))
           have hyg:∀j,(ay a (L.getD k' 0)).getD j false=(L.getD k' 0).testBit j:=fun j=>fZ fun j=>(hby j).1
           have hB1:=fun (R:Res) (g:R.σ)=>zN R (ay a (L.getD k' 0)) (ay a x) a m lC hxl omg ((hbx m).1 e2) ((hyg m).trans e1) ((hxg m).trans e2) (fun j hj=>by rw[hyg,hxg];exact e3 j hj) g
           refine vcR [[1,1,1,1,1,1,1,1,1,1,0,1,0,0,1,1,0,0,1,1,1,0,1,0,0,1,0,0]] (lkL [(31,[1,2,6,8,13,16,97,98,99,138,139,140,141])]) (fun _=>[]) (fun Q=>(fun (u1:St R.σ)=>(fun (u2:Int)=>(decide ((↑a:Int)<u2)=true->WpC Tryd.prog R 244 0 8 [1,1,1,1,1,1,1,1,1,1,0,1,0,0,1,1,0,0,1,1,1,0,1,0,0,1,0,0] Q [Kont.seq [1,1,1,1,1,1,1,1,1,1,0,1,0,0,1,1,0,0,1,1,1,0,1,0,0,1,1]] u1)/\(decide ((↑a:Int)<u2)=false->Q (AEx.exit 6) u1)) ((↑(List.length V.l):Int))) (St.mk [(1,aI b),(2,ref 0 0),(6,fz V.2 1 (List.length V.l) fun i x=>ac V.l i),(8,fz Fz.auto 1 (List.length L) fun i x=>fz Fz.auto 1 (List.length (af (List.getD L i 0)).l) fun i_1 x=>ac (af (List.getD L i 0)).l i_1),(13,fz Fz.auto 1 (List.length (ay a (List.getD L k' 0))) fun i x=>aC (ay a (List.getD L k' 0)) i),(16,fz Fz.auto 1 (List.length (ay a x)) fun i x_1=>aC (ay a x) i),(97,fz Fz.auto 1 (List.length L) fun i x=>fz Fz.auto 1 (List.length (af (List.getD L i 0)).l) fun i_1 x=>ac (af (List.getD L i 0)).l i_1),(98,i6 (↑(List.length L):Int)),(99,i6 (↑k:Int)),(138,fz V.2 1 (List.length V.l) fun i x=>ac V.l i),(139,i6 (↑(List.length V.l):Int)),(140,i6 (↑a:Int)),(141,AV.bool (decide ((↑a:Int)<(↑(List.length V.l):Int))))] [cO 2 (nth [i6 p.atoms,ae p.rules])] g)) ⟨fun hcc=>(nomatch (hda.symm.trans hcc)),fun _=>?_⟩
           refine⟨_,Ar _,vcR [] (lkL [(36,[1,2,6,8,16,97,98,99,180]),(37,[4]),(38,[1,2,6,8,13,97,98,99])]) (lkL [(36,[(2,ROrc.kcall (fz Fz.auto 1 (List.length (foR p (ay a x) a)) fun (i x_1:Nat)=>aC (foR p (ay a x) a) i)),(4,ROrc.kcall (AV.bool true)),(12,ROrc.kcall (AV.bool true))])]) (fun Q=>(fun (u1:List AObj)=>(fun (u2:AV)=>(fun (u3:AV)=>(fun (u4:Nat)=>(fun (u5:AV)=>(fun (u6:Bool)=>2<=2/\(true=true/\Does Tryd.prog R 38 [av p,u2] u1 g (ret u5) u1 g)/\(true=true/\Does Tryd.prog R 37 [u5,u2] u1 g (ret (AV.bool true)) u1 g)/\((!false && !Nat.beq u4 0)=true->true=true/\Does Tryd.prog R 39 [fz Fz.auto 1 u4 fun i x=>aC (ay a (List.getD L k' 0)) i,u2] u1 g (ret (AV.bool true)) u1 g)/\(u6=true->Q AEx.ret (St.mk [(4,AV.bool false)] u1 g))/\(u6=false->Q AEx.normal (St.mk [(1,aI b),(2,ref 0 0),(6,fz V.2 1 (List.length V.l) fun i x=>ac V.l i),(8,u3),(13,u2),(97,u3),(98,i6 (↑(List.length L):Int)),(99,i6 (↑k:Int))] u1 g))) (bif false then true else bif !Nat.beq u4 0 then false else false)) (fz Fz.auto 1 (List.length (foR p (ay a x) a)) fun i x_1=>aC (foR p (ay a x) a) i)) (List.length (ay a (List.getD L k' 0)))) (fz Fz.auto 1 (List.length L) fun i x=>fz Fz.auto 1 (List.length (af (List.getD L i 0)).l) fun i_1 x=>ac (af (List.getD L i 0)).l i_1)) (fz Fz.auto 1 (List.length (ay a x)) fun i x_1=>aC (ay a x) i)) ([cO 2 (nth [i6 p.atoms,ae p.rules])])) ⟨omg,⟨rfl,(doT (T:=LT) [] 1 (fun R _ g=>hF1 R g))⟩,⟨rfl,(doT (T:=LT) [] 1 (fun R _ g=>hS1 R g))⟩,(fun hgd=>⟨rfl,(doT (T:=LT) [] 1 (fun R _ g=>hB1 R g))⟩),fun c1=>have c1:false=true∨Nat.beq (List.length (ay a (List.getD L k' 0))) 0=false/\false=true:=((cY c1).imp (fun h=>h) (fun h=>⟨((Bool.not_eq_true' _).mp (bI h).1),(bI h).2⟩));?_,fun c1=>have c1:false=false/\(Nat.beq (List.length (ay a (List.getD L k' 0))) 0=true∨false=false):=⟨(bl c1).1,((dF (bl c1).2).imp (fun h=>((Bool.not_eq_false' _).mp h)) (fun h=>h))⟩;?_⟩⟩
           ·exfalso
            rcases c1 with h|h
            ·cases h
            ·cases h.2
           ·refine vcR [] (lkL [(39,[1,2,6,8,13,97,98,99])]) (fun _=>[]) (fun Q=>(fun (u1:AV)=>(-9223372036854775808<=(↑k:Int)+1/\(↑k:Int)+1<=9223372036854775807)/\Q AEx.normal (St.mk [(1,aI b),(2,ref 0 0),(6,fz V.2 1 (List.length V.l) fun i x=>ac V.l i),(8,u1),(13,fz Fz.auto 1 (List.length (ay a x)) fun i x_1=>aC (ay a x) i),(97,u1),(98,i6 (↑(List.length L):Int)),(99,i6 ((↑k:Int)+1))] [cO 2 (nth [i6 p.atoms,ae p.rules])] g)) (fz Fz.auto 1 (List.length L) fun i x=>fz Fz.auto 1 (List.length (af (List.getD L i 0)).l) fun i_1 x=>ac (af (List.getD L i 0)).l i_1)) ⟨omg,?_⟩
            refine(aQ (k+1) (aO ⟨Af _,Af _,Af _,Af _,(Ag ?_),Af _,Af _,(Ag krf),trivial⟩ rfl rfl) ?_ ?_)
            ·show bY (ay a x)=bY (ay a (L.getD k 0))
             rw[hxe]
            ·omega
            ·omega
     ·obtain rfl:k=L.length:=by omega
      obtain⟨la,hla⟩:∃a,oq i L L.length=a:=⟨_,rfl⟩
      rw[hla]
      have hdk:decide ((L.length:Int)<(L.length:Int))=false:=decide_eq_false omg
      refine vcR [[1,1,1,1,1,1,1,1,1,1,0,1,0,0,1,0,0]] (lkL [(20,[1,2,6,8,13,97,98,99,100])]) (fun _=>[]) (fun Q=>(fun (u1:St R.σ)=>(fun (u2:Int)=>(decide (u2<u2)=true->WpC Tryd.prog R 244 0 8 [1,1,1,1,1,1,1,1,1,1,0,1,0,0,1,0,0] Q [Kont.seq [1,1,1,1,1,1,1,1,1,1,0,1,0,0,1,1]] u1)/\(decide (u2<u2)=false->Q (AEx.exit 2) u1)) ((↑(List.length L):Int))) (St.mk [(1,aI b),(2,ref 0 0),(6,fz V.2 1 (List.length V.l) fun i x=>ac V.l i),(8,fz Fz.auto 1 (List.length L) fun i x=>fz Fz.auto 1 (List.length (af (List.getD L i 0)).l) fun i_1 x=>ac (af (List.getD L i 0)).l i_1),(13,la),(97,fz Fz.auto 1 (List.length L) fun i x=>fz Fz.auto 1 (List.length (af (List.getD L i 0)).l) fun i_1 x=>ac (af (List.getD L i 0)).l i_1),(98,i6 (↑(List.length L):Int)),(99,i6 (↑(List.length L):Int)),(100,AV.bool (decide ((↑(List.length L):Int)<(↑(List.length L):Int))))] [cO 2 (nth [i6 p.atoms,ae p.rules])] g)) ⟨fun hcc=>(nomatch (hdk.symm.trans hcc)),fun _=>?_⟩
      refine⟨_,Ar _,vcR [] (lkL [(40,[2,6,8,183,184,185])]) (fun _=>[]) (fun (Q:AEx->St R.σ->Prop)=>WpC Tryd.prog R 244 0 8 [1,1,1,1,1,1,1,1,1,1,1,0,1,0] Q [Kont.blk 8,Kont.seq [1,1,1,1,1,1,1,1,1,1,1,1]] (St.mk [(2,ref 0 0),(6,fz V.2 1 (List.length V.l) fun (i x:Nat)=>ac V.l i),(8,fz Fz.auto 1 (List.length L) fun (i x:Nat)=>fz Fz.auto 1 (List.length (af (List.getD L i 0)).l) fun (i_1 x:Nat)=>ac (af (List.getD L i 0)).l i_1),(183,aI b),(184,i6 (↑(List.length b.l):Int)),(185,i6 0)] [cO 2 (nth [i6 p.atoms,ae p.rules])] g)) (?_)⟩
      clear hla
      have hkn:∀i,0<=b.l.getD i 0/\b.l.getD i 0<4294967296:=fun i=>by
       rcases Nat.lt_or_ge i b.l.length with h|h
       ·exact hq _ (bO b.l 0 h)
       ·rw[List.getD_eq_getElem?_getD,List.getElem?_eq_none h]
        exact⟨dcd,dcd⟩
      refine(a8 krf (fun (k:Nat)=>⟨[(2,ref 0 0),(6,fz V.2 1 (V.l.length) fun (i x:Nat)=>ac V.l i),(8,fz Fz.auto 1 (L.length) fun (i x:Nat)=>fz Fz.auto 1 ((af (L.getD i 0)).l.length) fun (i_1 x:Nat)=>ac (af (L.getD i 0)).l i_1),(183,aI b),(184,i6 (b.l.length:Int)),(185,.int .i64 k)],[cO 2 (nth [i6 p.atoms,ae p.rules])],g⟩) (fun (k:Nat)=>(k<=b.l.length)) (fun (k:Nat)=>(b.l.length-k)) 0 (aO ⟨Af _,Af _,Af _,Af _,Af _,(Ag krf),trivial⟩ rfl rfl) ?_ (fun k hi=>?_))
      ·exact Nat.zero_le _
      ·rcases Nat.lt_or_ge k b.l.length with hlt|hge
       ·obtain⟨kk,hkk⟩:∃kk:Nat,b.l.getD k 0=kk:=⟨(b.l.getD k 0).toNat,by have:=hkn k;omega⟩
        have hkc:decide ((k:Int)<(b.l.length:Int))=true:=decide_eq_true omg
        refine vcR [[1,1,1,1,1,1,1,1,1,1,1,0,1,0,0,1,0,1]] (lkL [(41,[2,6,8,183,184,185,186]),(42,[2,6,8,22,183,184,185]),(43,[2,6,8,22,23,183,184,185]),(44,[2,6,8,22,23,24,183,184,185]),(45,[2,6,8,22,23,24,183,184,185,192,193,194])]) (fun _=>[]) (fun Q=>(fun (u1:Int)=>(fun (u2:AV)=>(fun (u3:AV)=>(fun (u4:Int)=>(fun (u5:AObj)=>(decide (u4<u1)=true->(0<=u4/\u4<u1)/\1<=1/\1<=2/\0<=p.atoms/\p.atoms<=p.atoms/\p.atoms<=140737488355328/\Int.toNat p.atoms*1<=aG/\WpC Tryd.prog R 244 0 8 [1,1,1,1,1,1,1,1,1,1,1,0,1,0,0,1,1,0,0,1,1,1,0,1,0] Q [Kont.blk 10,Kont.seq [1,1,1,1,1,1,1,1,1,1,1,0,1,0,0,1,1,0,0,1,1,1,1],Kont.blk 9,Kont.seq [1,1,1,1,1,1,1,1,1,1,1,0,1,0,0,1,1,1]] (St.mk [(2,ref 0 0),(6,u3),(8,u2),(22,int IntKind.u32 (List.getD b.l k 0)),(23,sl 1 0 (Int.toNat p.atoms) (Int.toNat p.atoms) true 1),(24,ref 2 0),(183,aI b),(184,i6 u1),(185,i6 u4),(192,u3),(193,i6 (↑(List.length V.l):Int)),(194,i6 0)] [u5,cO (Int.toNat p.atoms*1) fun j=>AV.bool false,cO 1 fun a=>fz Fz.nil 0 0 fun x x_1=>any] g))/\(decide (u4<u1)=false->WpC Tryd.prog R 244 0 8 [1,1,1,1,1,1,1,1,1,1,1,0,1,0,0,1,0,1] Q [Kont.seq [1,1,1,1,1,1,1,1,1,1,1,0,1,0,0,1,1]] (St.mk [(2,ref 0 0),(6,u3),(8,u2),(183,aI b),(184,i6 u1),(185,i6 u4),(186,AV.bool (decide (u4<u1)))] [u5] g))) (cO 2 (nth [i6 p.atoms,ae p.rules]))) ((↑k:Int))) (fz V.2 1 (List.length V.l) fun i x=>ac V.l i)) (fz Fz.auto 1 (List.length L) fun i x=>fz Fz.auto 1 (List.length (af (List.getD L i 0)).l) fun i_1 x=>ac (af (List.getD L i 0)).l i_1)) ((↑(List.length b.l):Int))) ⟨fun _=>⟨omg,omg,omg,omg,omg,omg,omg,?_⟩,fun hcc=>(nomatch (hkc.symm.trans hcc))⟩
        rw[hkk,hn]
        refine b8 (toS (s':=⟨[(2,.ref 0 0),(6,aj V),(8,bq L.length fun i=>af (L.getD i 0)),(22,.int .u32 kk),(23,.ow true 2 i 1),(24,.ref 1 0),(183,aI b),(184,.int .i64 b.l.length),(185,.int .i64 k),(192,aj V),(193,.int .i64 V.l.length),(194,.int .i64 0)],[cO 2 (nth [.int .i64 p.atoms,ae p.rules]),cO 1 (fun _=>.fz .nil 0 0 (fun _ _=>.any)),cO (i*1) (dI fun _=>false)],g⟩) [0,2,1] 3 (hfr:=⟨Af _,Af _,Af _,Af _,Ao omg,Af _,Af _,Af _,Af _,Af _,Af _,Af _,trivial⟩) (hob:=⟨Ap (fun j hj=>match j,hj with|0,_=>rfl|1,_=>rfl),Ap (fun j hj=>rfl),Ap (fun j hj=>rfl),trivial⟩)) ?_
        refine b8 (fU (fun _=>.any) 1) ?_
        refine(a8 krf (fun (x:Nat × Nat)=>⟨[(2,ref 0 0),(6,fz V.2 1 (V.l.length) fun (i x:Nat)=>ac V.l i),(8,fz Fz.auto 1 (L.length) fun (i x:Nat)=>fz Fz.auto 1 ((af (L.getD i 0)).l.length) fun (i_1 x:Nat)=>ac (af (L.getD i 0)).l i_1),(22,int IntKind.u32 (kk:Int)),(23,ow true 2 i 1),(24,ref 1 0),(183,aI b),(184,i6 (b.l.length:Int)),(185,i6 (k:Int)),(192,fz V.2 1 (V.l.length) fun (i x:Nat)=>ac V.l i),(193,i6 (V.l.length:Int)),(194,.int .i64 x.1)],[cO 2 (nth [.int .i64 p.atoms,ae p.rules]),cO 1 (fun _=>.ow true 3 x.2 1),cO (i*1) (dI fun j=>decide (j<x.1)&&byB v kk j),cO (x.2*1) (ac (byL v kk x.1))],g⟩) (fun (x:Nat × Nat)=>(x.1<=i/\x.2=(byL v kk x.1).length)) (fun (x:Nat × Nat)=>(i-x.1)) ((0,0):Nat × Nat) (toL (h1:=⟨Af _,Af _,Af _,Af _,Af _,Af _,Af _,Af _,Af _,Af _,Af _,(Ag krf),trivial⟩) (h2:=⟨Ah,⟨rfl,Nat.le_refl _,fun j hj=>match j,hj with|0,_=>Le.nil_ow ⟩,Ah,⟨rfl,Nat.le_refl _,fun j hj=>absurd hj (Nat.not_lt_zero j)⟩,trivial⟩)) ?_ (fun x hi=>?_))
        ·exact⟨Nat.zero_le _,rfl⟩
        ·obtain⟨a,m⟩:=x
         obtain⟨ha,hm⟩:=hi
         simp only at ha hm
         have hpl:=zY (v:=v) (k:=kk) (i:=a)
         have hps:=zX (v:=v) (k:=kk) (i:=a)
         rcases Nat.lt_or_ge a i with hlt2|hge2
         ·have hva:=hVg a hlt2
          have hcl:decide ((a:Int)<(V.l.length:Int))=true:=decide_eq_true omg
          have hov:∀j,(decide (j<a+1)&&byB v kk j)=if j=a then byB v kk a else(decide (j<a)&&byB v kk j):=fun j=>by
           by_cases e:j=a
           ·rw[if_pos e,e,decide_eq_true omg,Bool.true_and]
           ·rw[if_neg e]
            congr 1
            rw[Bool.eq_iff_iff,decide_eq_true_eq,decide_eq_true_eq]
            omega
          have hsc:∀X:Bool,X=byB v kk a->∀c,dI (fun j=>decide (j<a+1)&&byB v kk j) c=am (dI fun j=>decide (j<a)&&byB v kk j) a 1 (fun _=>.bool X) c:=fun X hX c=>by
           rw[hX]
           exact(sB hov).symm
          cases hb':byB v kk a with
          |true=>
           rw[hb',if_pos rfl] at hps
           have hld:(decide (a<a+1)&&byB v kk a)=true:=by rw[decide_eq_true omg,hb'];rfl
           refine vcR [[1,1,1,1,1,1,1,1,1,1,1,0,1,0,0,1,1,0,0,1,1,1,0,1,0,0,1,1,0,0,1,1,1,1],[1,1,1,1,1,1,1,1,1,1,1,0,1,0,0,1,1,0,0,1,1,1,0,1,0,0,1,0,1]] (lkL [(46,[2,6,8,22,23,24,183,184,185,192,193,194,195]),(47,[2,6,8,22,23,24,25,26,183,184,185,192,193,194]),(48,[2,6,8,22,23,24,25,183,184,185,192,193,194]),(49,[2,6,8,22,23,24,25,183,184,185,192,193,194,218]),(50,[2,6,8,22,23,24,183,184,185,192,193,194]),(51,[2,6,8,22,23,24,183,184,185,192,193,194])]) (lkL [(48,[(16,ROrc.val (Orc.obj (dI fun (j:Nat)=>decide (j<a+1)&&byB v kk j)))]),(50,[(3,ROrc.val (Orc.obj (ac (byL v kk a++[(↑a:Int)])))),(4,ROrc.val (Orc.obj (nth [ow true 5 (m+1) 1])))])]) (fun Q=>(fun (u1:Nat × AV)=>(fun (u2:AV)=>(fun (u3:Int)=>(fun (u4:Int)=>(fun (u5:AObj)=>(fun (u6:AObj)=>(fun (u7:Nat × AV)=>(fun (u8:Nat × AV)=>(fun (u9:Bool)=>(fun (u10:AObj)=>(decide (u4<u3)=true->(0<=u4/\u4<u3)/\1<=1/\((!List.getD V.l a 0==2&&List.getD V.l a 0==3)=true->0<=u4)/\(0<=u4/\u4<(↑i:Int))/\a+1<=i*1/\(∀(c:Nat),c<i*1->AV.bool (decide (c<a+1)&&byB v kk c)=am (fun (a_2:Nat)=>AV.bool (decide (a_2<a)&&byB v kk a_2)) a 1 (fun (x:Nat)=>AV.bool (bif List.getD V.l a 0==2 then true else bif List.getD V.l a 0==3 then IntKind.wrap IntKind.u32 (↑(BitVec.toNat (BitVec.ofInt 32 (Int.fdiv (↑kk:Int) (2^min a 32))&&&BitVec.ofInt 32 1)):Int)==1 else false)) c)/\(0<=u4/\u4<(↑i:Int))/\a+1<=i*1/\(u9=true->1<=1/\0<1/\(m+1)*8<=aG/\m+1<=aG/\1<=1/\m*1<=m*1/\(∀(c:Nat),c<(m+1)*1->ac (byL v kk a++[u4]) c=ba 1 m (fun (i j:Nat)=>ac (byL v kk a) (i*1+j)) (fun (i j:Nat)=>am (fun (j:Nat)=>i6 0) 0 1 (fun (x:Nat)=>i6 u4) (0+i*1+j)) c)/\1<=1/\(∀(c:Nat),c<1->nth [ow true 5 (m+1) 1] c=am (fun (x:Nat)=>ow true 3 m 1) 0 1 (fun (x:Nat)=>ow true 5 (m+1) 1) c)/\(-9223372036854775808<=u4+1/\u4+1<=9223372036854775807)/\Q AEx.normal (St.mk [(2,ref 0 0),(6,u2),u1,u8,(23,ow true 2 i 1),(24,ref 1 0),(183,aI b),u7,(185,i6 (↑k:Int)),(192,u2),(193,i6 u3),(194,i6 (u4+1))] [u5,cO 1 (nth [ow true 5 (m+1) 1]),u6,dead,cO 1 (am (fun (j:Nat)=>i6 0) 0 1 fun x=>i6 u4),cO ((m+1)*1) fun a_1=>ac (byL v kk a++[u4]) a_1] g))/\(u9=false->WpC Tryd.prog R 244 0 8 [1,1,1,1,1,1,1,1,1,1,1,0,1,0,0,1,1,0,0,1,1,1,0,1,0,0,1,1,0,0,1,1,1,1] Q [Kont.blk 11,Kont.seq [1,1,1,1,1,1,1,1,1,1,1,0,1,0,0,1,1,0,0,1,1,1,0,1,0,0,1,1,1]] (St.mk [(2,ref 0 0),(6,u2),u1,u8,(23,ow true 2 i 1),(24,ref 1 0),(25,i6 u4),(183,aI b),u7,(185,i6 (↑k:Int)),(192,u2),(193,i6 u3),(194,i6 u4),(218,AV.bool u9)] [u5,cO 1 fun x=>ow true 3 m 1,u6,u10] g)))/\(decide (u4<u3)=false->WpC Tryd.prog R 244 0 8 [1,1,1,1,1,1,1,1,1,1,1,0,1,0,0,1,1,0,0,1,1,1,0,1,0,0,1,0,1] Q [Kont.seq [1,1,1,1,1,1,1,1,1,1,1,0,1,0,0,1,1,0,0,1,1,1,0,1,0,0,1,1]] (St.mk [(2,ref 0 0),(6,u2),u1,u8,(23,ow true 2 i 1),(24,ref 1 0),(183,aI b),u7,(185,i6 (↑k:Int)),(192,u2),(193,i6 u3),(194,i6 u4),(195,AV.bool (decide (u4<u3)))] [u5,cO 1 fun x=>ow true 3 m 1,cO (i*1) fun a_1=>AV.bool (decide (a_1<a)&&byB v kk a_1),u10] g))) (cO (m*1) fun a_1=>ac (byL v kk a) a_1)) (decide (a<a+1)&&byB v kk a)) ((22,int IntKind.u32 (↑kk:Int)))) ((184,i6 (↑(List.length b.l):Int)))) (cO (i*1) fun a_1=>AV.bool (decide (a_1<a+1)&&byB v kk a_1))) (cO 2 (nth [i6 p.atoms,ae p.rules]))) ((↑a:Int))) ((↑(List.length V.l):Int))) (fz V.2 1 (List.length V.l) fun i x=>ac V.l i)) ((8,fz Fz.auto 1 (List.length L) fun i x=>fz Fz.auto 1 (List.length (af (List.getD L i 0)).l) fun i_1 x=>ac (af (List.getD L i 0)).l i_1))) ⟨fun _=>⟨omg,omg,omg,omg,omg,?_,omg,omg,fun _=>⟨omg,omg,omg,omg,omg,omg,?_,omg,(fun c hc=>match c,hc with|0,_=>krf ),omg,?_⟩,fun hcc=>(nomatch (hld.symm.trans hcc))⟩,fun hcc=>(nomatch (hcl.symm.trans hcc))⟩
           ·intro c hc
            exact hsc _ (by unfold byB oo;rw[hva]) c
           ·intro c hc
            rw[hm] at hc ⊢
            exact(rO (z:=fun _=>.int .i64 0) hc).trans krf
           ·refine(aQ (a+1,m+1) (toS [0,1,2,5] 6 (hob:=⟨⟨rfl,Nat.le_refl _,fun j hj=>match j,hj with|0,_=>(Af _)|1,_=>(Af _) ⟩,⟨rfl,Nat.le_refl _,fun j hj=>match j,hj with|0,_=>(Af _) ⟩,?_,?_,trivial⟩)) ?_ ?_)
            ·exact Ai _
            ·show LeO (cO ((m+1)*1) (ac (byL v kk a++[(a:Int)]))) (cO ((m+1)*1) (ac (byL v kk (a+1))))
             rw[hps]
             exact Ai _
            ·refine⟨by show a+1<=_;omega,?_⟩
             show m+1=(byL v kk (a+1)).length
             rw[hps,List.length_append,<-hm]
             rfl
            ·show i-(a+1)<i-a
             omega
          |false=>
           rw[hb',if_neg dcd] at hps
           have hld:(decide (a<a+1)&&byB v kk a)=false:=by rw[decide_eq_true omg,hb'];rfl
           refine vcR [[1,1,1,1,1,1,1,1,1,1,1,0,1,0,0,1,1,0,0,1,1,1,0,1,0,0,1,1,0,0,1,1,1,0],[1,1,1,1,1,1,1,1,1,1,1,0,1,0,0,1,1,0,0,1,1,1,0,1,0,0,1,0,1]] (lkL [(46,[2,6,8,22,23,24,183,184,185,192,193,194,195]),(47,[2,6,8,22,23,24,25,26,183,184,185,192,193,194]),(48,[2,6,8,22,23,24,25,183,184,185,192,193,194]),(49,[2,6,8,22,23,24,25,183,184,185,192,193,194,218]),(51,[2,6,8,22,23,24,183,184,185,192,193,194])]) (lkL [(48,[(16,ROrc.val (Orc.obj (dI fun (j:Nat)=>decide (j<a+1)&&byB v kk j)))])]) (fun Q=>(fun (u1:Nat × AV)=>(fun (u2:AV)=>(fun (u3:List AObj)=>(fun (u4:Int)=>(fun (u5:Int)=>(fun (u6:Nat × AV)=>(fun (u7:Nat × AV)=>(fun (u8:Bool)=>(decide (u5<u4)=true->(0<=u5/\u5<u4)/\1<=1/\((!List.getD V.l a 0==2&&List.getD V.l a 0==3)=true->0<=u5)/\(0<=u5/\u5<(↑i:Int))/\a+1<=i*1/\(∀(c:Nat),c<i*1->AV.bool (decide (c<a+1)&&byB v kk c)=am (fun (a_2:Nat)=>AV.bool (decide (a_2<a)&&byB v kk a_2)) a 1 (fun (x:Nat)=>AV.bool (bif List.getD V.l a 0==2 then true else bif List.getD V.l a 0==3 then IntKind.wrap IntKind.u32 (↑(BitVec.toNat (BitVec.ofInt 32 (Int.fdiv (↑kk:Int) (2^min a 32))&&&BitVec.ofInt 32 1)):Int)==1 else false)) c)/\(0<=u5/\u5<(↑i:Int))/\a+1<=i*1/\(u8=true->WpC Tryd.prog R 244 0 8 [1,1,1,1,1,1,1,1,1,1,1,0,1,0,0,1,1,0,0,1,1,1,0,1,0,0,1,1,0,0,1,1,1,0] Q [Kont.blk 11,Kont.seq [1,1,1,1,1,1,1,1,1,1,1,0,1,0,0,1,1,0,0,1,1,1,0,1,0,0,1,1,1]] (St.mk [(2,ref 0 0),(6,u2),u1,u7,(23,ow true 2 i 1),(24,ref 1 0),(25,i6 u5),(183,aI b),u6,(185,i6 (↑k:Int)),(192,u2),(193,i6 u4),(194,i6 u5),(218,AV.bool u8)] u3 g))/\(u8=false->(-9223372036854775808<=u5+1/\u5+1<=9223372036854775807)/\Q AEx.normal (St.mk [(2,ref 0 0),(6,u2),u1,u7,(23,ow true 2 i 1),(24,ref 1 0),(183,aI b),u6,(185,i6 (↑k:Int)),(192,u2),(193,i6 u4),(194,i6 (u5+1))] u3 g)))/\(decide (u5<u4)=false->WpC Tryd.prog R 244 0 8 [1,1,1,1,1,1,1,1,1,1,1,0,1,0,0,1,1,0,0,1,1,1,0,1,0,0,1,0,1] Q [Kont.seq [1,1,1,1,1,1,1,1,1,1,1,0,1,0,0,1,1,0,0,1,1,1,0,1,0,0,1,1]] (St.mk [(2,ref 0 0),(6,u2),u1,u7,(23,ow true 2 i 1),(24,ref 1 0),(183,aI b),u6,(185,i6 (↑k:Int)),(192,u2),(193,i6 u4),(194,i6 u5),(195,AV.bool (decide (u5<u4)))] [cO 2 (nth [i6 p.atoms,ae p.rules]),cO 1 fun x=>ow true 3 m 1,cO (i*1) fun a_1=>AV.bool (decide (a_1<a)&&byB v kk a_1),cO (m*1) fun a_1=>ac (byL v kk a) a_1] g))) (decide (a<a+1)&&byB v kk a)) ((22,int IntKind.u32 (↑kk:Int)))) ((184,i6 (↑(List.length b.l):Int)))) ((↑a:Int))) ((↑(List.length V.l):Int))) ([cO 2 (nth [i6 p.atoms,ae p.rules]),cO 1 fun x=>ow true 3 m 1,cO (i*1) fun a_1=>AV.bool (decide (a_1<a+1)&&byB v kk a_1),cO (m*1) fun a_1=>ac (byL v kk a) a_1])) (fz V.2 1 (List.length V.l) fun i x=>ac V.l i)) ((8,fz Fz.auto 1 (List.length L) fun i x=>fz Fz.auto 1 (List.length (af (List.getD L i 0)).l) fun i_1 x=>ac (af (List.getD L i 0)).l i_1))) ⟨fun _=>⟨omg,omg,omg,omg,omg,?_,omg,omg,fun hcc=>(nomatch (hld.symm.trans hcc)),fun _=>⟨omg,?_⟩⟩,fun hcc=>(nomatch (hcl.symm.trans hcc))⟩
           ·intro c hc
            exact hsc _ (by unfold byB oo;rw[hva]) c
           ·refine(aQ (a+1,m) (toL (h1:=⟨Af _,Af _,Af _,Af _,Af _,Af _,Af _,Af _,Af _,Af _,Af _,(Ag krf),trivial⟩) (h2:=⟨Ah,Ah,Ah,?_,trivial⟩)) ?_ ?_)
            ·show LeO (cO (m*1) (ac (byL v kk a))) (cO (m*1) (ac (byL v kk (a+1))))
             rw[hps]
             exact Ai _
            ·refine⟨by show a+1<=_;omega,?_⟩
             show m=(byL v kk (a+1)).length
             rw[hps,<-hm]
            ·show i-(a+1)<i-a
             omega
         ·obtain rfl:a=i:=by omega
          subst hm
          have hda:decide ((a:Int)<(V.l.length:Int))=false:=decide_eq_false omg
          obtain⟨x,hxb,hxm,hbx⟩:=zZ (v:=v) (n:=a) (k:=kk) hfin.dom omg
          have hxl:(ay a x).length=a:=lC
          have hxg:∀j,(ay a x).getD j false=x.testBit j:=fun j=>fZ fun j=>(hbx j).1
          have hF1:=fun (R:Res) (g:R.σ)=>sx R p (ay a x) a omg hxl hpa hl hrn g
          have hS1:=fun (R:Res) (g:R.σ)=>sw R (foR p (ay a x) a) (ay a x) a (sy fun r hr=>by have:=(hrn r hr).2;omega) hxl omg g
          rw[oa (p:=p) (n:=a) (s:=x) omg hr (fun r h=>by have:=(hrn r h).2;omega) (fun j=>(hbx j).1)] at hS1
          obtain⟨Y,hY⟩:∃Y:KL Int,(⟨byL v kk a,.auto⟩:KL Int)=Y:=⟨_,rfl⟩
          have hxY:aB x=Y.l:=by rw[<-hY];exact hxm
          have hfd:=z2 (L:=L) (x:=x) (n:=a) (Y:=Y) omg (fun y hy j=>(hst.bit y hy j).1) (fun j=>(hbx j).1) hxY
          have hCF:∀(R:Res) (g:R.σ),Does Tryd.prog R 40 [bq L.length (fun i=>af (L.getD i 0)),.fn 41 0 (nth []) 1 (nth [.ref 1 0])] [cO 2 (nth [.int .i64 p.atoms,ae p.rules]),cO 1 (fun _=>aj Y)] g (.ret (.bool (decide (x∈L)))) [cO 2 (nth [.int .i64 p.atoms,ae p.rules]),cO 1 (fun _=>aj Y)] g:=fun R g=>by
           have h:=zS R L.length (fun i=>af (L.getD i 0)) 41 0 1 (nth []) (nth [.ref 1 0]) (fun i=>decide ((af (L.getD i 0)).l=Y.l)) [cO 2 (nth [.int .i64 p.atoms,ae p.rules]),cO 1 (fun _=>aj Y)] g omg krf (fun i _=>eM [1] 2 (fun R g=>zO R (af (L.getD i 0)) Y nY g) rfl rfl rfl ⟨Ap (fun j hj=>rfl),trivial⟩ (by exact⟨Nat.one_pos,trivial⟩) ⟨Af _,Af _,trivial⟩ (Af _) ⟨Ai _,Ap (fun j hj=>rfl),trivial⟩)
           rw[hfd] at h
           exact h
          refine b8 (mZ 2 [(2,.ref 0 0),(6,aj V),(8,bq L.length fun i=>af (L.getD i 0)),(22,.int .u32 kk),(23,bY (ay a x)),(24,.ref 1 0),(183,aI b),(184,.int .i64 b.l.length),(185,.int .i64 k),(192,aj V),(193,.int .i64 V.l.length),(194,.int .i64 a)] [cO 2 (nth [.int .i64 p.atoms,ae p.rules]),cO 1 (fun _=>aj Y)] (Nat.zero_le _) (by show 2<=4;omega) rfl (fun i hi=>match i,hi with
           |0,_=>⟨rfl,rfl,fun j hj=>match j,hj with|0,_=>Am trivial|1,_=>Am trivial⟩
           |1,_=>⟨rfl,rfl,fun j hj=>hY▸yE (o:=3) rfl rfl dcd⟩) ⟨Am (show 0<2 by omega),Am trivial,Am trivial,Am trivial,sC (o:=2) hxl (fun j _=>(hxg j).trans (hxb j)) rfl omg,Am (show 1<2 by omega),Am trivial,Am trivial,Am trivial,Am trivial,Am trivial,Am trivial,trivial⟩) ?_
          by_cases hfx:fol p.rules.l x=x
          ·rw[decide_eq_true hfx] at hS1
           by_cases hin:x∈L
           ·simp only[decide_eq_true hin] at hCF
            refine vcR [[1,1,1,1,1,1,1,1,1,1,1,0,1,0,0,1,1,0,0,1,1,1,0,1,0,0,1,0,0]] (lkL [(46,[2,6,8,22,23,24,183,184,185,192,193,194,195])]) (fun _=>[]) (fun Q=>(fun (u1:St R.σ)=>(fun (u2:Int)=>(decide ((↑a:Int)<u2)=true->WpC Tryd.prog R 244 0 8 [1,1,1,1,1,1,1,1,1,1,1,0,1,0,0,1,1,0,0,1,1,1,0,1,0,0,1,0,0] Q [Kont.seq [1,1,1,1,1,1,1,1,1,1,1,0,1,0,0,1,1,0,0,1,1,1,0,1,0,0,1,1]] u1)/\(decide ((↑a:Int)<u2)=false->Q (AEx.exit 10) u1)) ((↑(List.length V.l):Int))) (St.mk [(2,ref 0 0),(6,fz V.2 1 (List.length V.l) fun i x=>ac V.l i),(8,fz Fz.auto 1 (List.length L) fun i x=>fz Fz.auto 1 (List.length (af (List.getD L i 0)).l) fun i_1 x=>ac (af (List.getD L i 0)).l i_1),(22,int IntKind.u32 (↑kk:Int)),(23,fz Fz.auto 1 (List.length (ay a x)) fun i x_1=>aC (ay a x) i),(24,ref 1 0),(183,aI b),(184,i6 (↑(List.length b.l):Int)),(185,i6 (↑k:Int)),(192,fz V.2 1 (List.length V.l) fun i x=>ac V.l i),(193,i6 (↑(List.length V.l):Int)),(194,i6 (↑a:Int)),(195,AV.bool (decide ((↑a:Int)<(↑(List.length V.l):Int))))] [cO 2 (nth [i6 p.atoms,ae p.rules]),cO 1 fun x=>fz Y.2 1 (List.length Y.l) fun i x=>ac Y.l i] g)) ⟨fun hcc=>(nomatch (hda.symm.trans hcc)),fun _=>?_⟩
            refine⟨_,Ar _,vcR [[1,1,1,1,1,1,1,1,1,1,1,0,1,0,0,1,1,0,0,1,1,1,1,1,1,0]] (lkL [(52,[2,6,8,23,27,183,184,185]),(53,[2,6,8,183,184,185,241])]) (lkL [(52,[(2,ROrc.call (AV.bool true) [cO 2 (nth [i6 p.atoms,ae p.rules]),cO 1 fun (x:Nat)=>aj Y] g)]),(53,[(3,ROrc.kcall (fz Fz.auto 1 (List.length (foR p (ay a x) a)) fun (i x_1:Nat)=>aC (foR p (ay a x) a) i)),(5,ROrc.kcall (AV.bool true))])]) (fun Q=>(fun (u1:List AObj)=>(fun (u2:St R.σ)=>(fun (u3:AV)=>(fun (u4:AV)=>(true=true/\Does Tryd.prog R 40 [fz Fz.auto 1 (List.length L) fun i x=>fz Fz.auto 1 (List.length (af (List.getD L i 0)).l) fun i_1 x=>ac (af (List.getD L i 0)).l i_1,fn 41 0 (nth []) 1 (nth [ref 1 0])] u1 g (ret (AV.bool true)) u1 g)/\2<=2/\(true=true/\Does Tryd.prog R 38 [av p,u4] u1 g (ret u3) u1 g)/\(true=true/\Does Tryd.prog R 37 [u3,u4] u1 g (ret (AV.bool true)) u1 g)/\(false=true->WpC Tryd.prog R 244 0 8 [1,1,1,1,1,1,1,1,1,1,1,0,1,0,0,1,1,0,0,1,1,1,1,1,1,0] Q [] u2)/\(false=false->Q AEx.normal u2)) (fz Fz.auto 1 (List.length (ay a x)) fun i x_1=>aC (ay a x) i)) (fz Fz.auto 1 (List.length (foR p (ay a x) a)) fun i x_1=>aC (foR p (ay a x) a) i)) (St.mk [(2,ref 0 0),(6,fz V.2 1 (List.length V.l) fun i x=>ac V.l i),(8,fz Fz.auto 1 (List.length L) fun i x=>fz Fz.auto 1 (List.length (af (List.getD L i 0)).l) fun i_1 x=>ac (af (List.getD L i 0)).l i_1),(183,aI b),(184,i6 (↑(List.length b.l):Int)),(185,i6 (↑k:Int)),(241,AV.bool false)] u1 g)) ([cO 2 (nth [i6 p.atoms,ae p.rules]),cO 1 fun x=>fz Y.2 1 (List.length Y.l) fun i x=>ac Y.l i])) ⟨⟨rfl,(hCF _ _)⟩,omg,⟨rfl,(doT (T:=LT) [] 2 (fun R _ g=>hF1 R g))⟩,⟨rfl,(doT (T:=LT) [] 2 (fun R _ g=>hS1 R g))⟩,fun h=>(nomatch h),fun _=>?_⟩⟩
            refine vcR [] (lkL [(55,[2,6,8,183,184,185])]) (fun _=>[]) (fun Q=>(-9223372036854775808<=(↑k:Int)+1/\(↑k:Int)+1<=9223372036854775807)/\Q AEx.normal (St.mk [(2,ref 0 0),(6,fz V.2 1 (List.length V.l) fun i x=>ac V.l i),(8,fz Fz.auto 1 (List.length L) fun i x=>fz Fz.auto 1 (List.length (af (List.getD L i 0)).l) fun i_1 x=>ac (af (List.getD L i 0)).l i_1),(183,aI b),(184,i6 (↑(List.length b.l):Int)),(185,i6 ((↑k:Int)+1))] [cO 2 (nth [i6 p.atoms,ae p.rules]),cO 1 fun x=>fz Y.2 1 (List.length Y.l) fun i x=>ac Y.l i] g)) ⟨omg,?_⟩
            refine(aQ (k+1) (toS [0] 2) ?_ ?_)
            ·omega
            ·omega
           ·simp only[decide_eq_false hin] at hCF
            have h100:decide ((L.length:Int)<100)=false:=decide_eq_false (by
             have:=(hst.all x hfx hbx).resolve_left hin
             omega)
            refine vcR [[1,1,1,1,1,1,1,1,1,1,1,0,1,0,0,1,1,0,0,1,1,1,0,1,0,0,1,0,0]] (lkL [(46,[2,6,8,22,23,24,183,184,185,192,193,194,195])]) (fun _=>[]) (fun Q=>(fun (u1:St R.σ)=>(fun (u2:Int)=>(decide ((↑a:Int)<u2)=true->WpC Tryd.prog R 244 0 8 [1,1,1,1,1,1,1,1,1,1,1,0,1,0,0,1,1,0,0,1,1,1,0,1,0,0,1,0,0] Q [Kont.seq [1,1,1,1,1,1,1,1,1,1,1,0,1,0,0,1,1,0,0,1,1,1,0,1,0,0,1,1]] u1)/\(decide ((↑a:Int)<u2)=false->Q (AEx.exit 10) u1)) ((↑(List.length V.l):Int))) (St.mk [(2,ref 0 0),(6,fz V.2 1 (List.length V.l) fun i x=>ac V.l i),(8,fz Fz.auto 1 (List.length L) fun i x=>fz Fz.auto 1 (List.length (af (List.getD L i 0)).l) fun i_1 x=>ac (af (List.getD L i 0)).l i_1),(22,int IntKind.u32 (↑kk:Int)),(23,fz Fz.auto 1 (List.length (ay a x)) fun i x_1=>aC (ay a x) i),(24,ref 1 0),(183,aI b),(184,i6 (↑(List.length b.l):Int)),(185,i6 (↑k:Int)),(192,fz V.2 1 (List.length V.l) fun i x=>ac V.l i),(193,i6 (↑(List.length V.l):Int)),(194,i6 (↑a:Int)),(195,AV.bool (decide ((↑a:Int)<(↑(List.length V.l):Int))))] [cO 2 (nth [i6 p.atoms,ae p.rules]),cO 1 fun x=>fz Y.2 1 (List.length Y.l) fun i x=>ac Y.l i] g)) ⟨fun hcc=>(nomatch (hda.symm.trans hcc)),fun _=>?_⟩
            refine⟨_,Ar _,vcR [] (lkL [(52,[2,6,8,23,27,183,184,185]),(53,[2,6,8,183,184,185,241]),(54,[4])]) (lkL [(52,[(2,ROrc.call (AV.bool false) [cO 2 (nth [i6 p.atoms,ae p.rules]),cO 1 fun (x:Nat)=>aj Y] g)]),(53,[(3,ROrc.kcall (fz Fz.auto 1 (List.length (foR p (ay a x) a)) fun (i x_1:Nat)=>aC (foR p (ay a x) a) i)),(5,ROrc.kcall (AV.bool true))])]) (fun Q=>(fun (u1:List AObj)=>(fun (u2:Bool)=>(fun (u3:AV)=>(fun (u4:AV)=>(fun (u5:AV)=>(true=true/\Does Tryd.prog R 40 [u3,fn 41 0 (nth []) 1 (nth [ref 1 0])] u1 g (ret (AV.bool false)) u1 g)/\2<=2/\(true=true/\Does Tryd.prog R 38 [av p,u5] u1 g (ret u4) u1 g)/\(true=true/\Does Tryd.prog R 37 [u4,u5] u1 g (ret (AV.bool true)) u1 g)/\(u2=true->Q AEx.ret (St.mk [(4,AV.bool false)] u1 g))/\(u2=false->Q AEx.normal (St.mk [(2,ref 0 0),(6,fz V.2 1 (List.length V.l) fun i x=>ac V.l i),(8,u3),(183,aI b),(184,i6 (↑(List.length b.l):Int)),(185,i6 (↑k:Int)),(241,AV.bool u2)] u1 g))) (fz Fz.auto 1 (List.length (ay a x)) fun i x_1=>aC (ay a x) i)) (fz Fz.auto 1 (List.length (foR p (ay a x) a)) fun i x_1=>aC (foR p (ay a x) a) i)) (fz Fz.auto 1 (List.length L) fun i x=>fz Fz.auto 1 (List.length (af (List.getD L i 0)).l) fun i_1 x=>ac (af (List.getD L i 0)).l i_1)) (bif true then bif false then true else decide ((↑(List.length L):Int)<100) else false)) ([cO 2 (nth [i6 p.atoms,ae p.rules]),cO 1 fun x=>fz Y.2 1 (List.length Y.l) fun i x=>ac Y.l i])) ⟨⟨rfl,(hCF _ _)⟩,omg,⟨rfl,(doT (T:=LT) [] 2 (fun R _ g=>hF1 R g))⟩,⟨rfl,(doT (T:=LT) [] 2 (fun R _ g=>hS1 R g))⟩,fun c1=>have c1:true=true/\(false=true∨(↑(List.length L):Int)<100):=⟨(bI c1).1,((cY (bI c1).2).imp (fun h=>h) (fun h=>(of_decide_eq_true h)))⟩;?_,fun c1=>have c1:true=false∨false=false/\¬(↑(List.length L):Int)<100:=((dF c1).imp (fun h=>h) (fun h=>⟨(bl h).1,(of_decide_eq_false (bl h).2)⟩));?_⟩⟩
            ·exfalso
             have h1:=of_decide_eq_false h100
             rcases c1.2 with h|h
             ·cases h
             ·exact h1 h
            ·refine vcR [] (lkL [(55,[2,6,8,183,184,185])]) (fun _=>[]) (fun Q=>(-9223372036854775808<=(↑k:Int)+1/\(↑k:Int)+1<=9223372036854775807)/\Q AEx.normal (St.mk [(2,ref 0 0),(6,fz V.2 1 (List.length V.l) fun i x=>ac V.l i),(8,fz Fz.auto 1 (List.length L) fun i x=>fz Fz.auto 1 (List.length (af (List.getD L i 0)).l) fun i_1 x=>ac (af (List.getD L i 0)).l i_1),(183,aI b),(184,i6 (↑(List.length b.l):Int)),(185,i6 ((↑k:Int)+1))] [cO 2 (nth [i6 p.atoms,ae p.rules]),cO 1 fun x=>fz Y.2 1 (List.length Y.l) fun i x=>ac Y.l i] g)) ⟨omg,?_⟩
             refine(aQ (k+1) (toS [0] 2) ?_ ?_)
             ·omega
             ·omega
          ·rw[decide_eq_false hfx] at hS1
           have hin:¬x∈L:=fun h=>hfx (hst.fix x h)
           simp only[decide_eq_false hin] at hCF
           refine vcR [[1,1,1,1,1,1,1,1,1,1,1,0,1,0,0,1,1,0,0,1,1,1,0,1,0,0,1,0,0]] (lkL [(46,[2,6,8,22,23,24,183,184,185,192,193,194,195])]) (fun _=>[]) (fun Q=>(fun (u1:St R.σ)=>(fun (u2:Int)=>(decide ((↑a:Int)<u2)=true->WpC Tryd.prog R 244 0 8 [1,1,1,1,1,1,1,1,1,1,1,0,1,0,0,1,1,0,0,1,1,1,0,1,0,0,1,0,0] Q [Kont.seq [1,1,1,1,1,1,1,1,1,1,1,0,1,0,0,1,1,0,0,1,1,1,0,1,0,0,1,1]] u1)/\(decide ((↑a:Int)<u2)=false->Q (AEx.exit 10) u1)) ((↑(List.length V.l):Int))) (St.mk [(2,ref 0 0),(6,fz V.2 1 (List.length V.l) fun i x=>ac V.l i),(8,fz Fz.auto 1 (List.length L) fun i x=>fz Fz.auto 1 (List.length (af (List.getD L i 0)).l) fun i_1 x=>ac (af (List.getD L i 0)).l i_1),(22,int IntKind.u32 (↑kk:Int)),(23,fz Fz.auto 1 (List.length (ay a x)) fun i x_1=>aC (ay a x) i),(24,ref 1 0),(183,aI b),(184,i6 (↑(List.length b.l):Int)),(185,i6 (↑k:Int)),(192,fz V.2 1 (List.length V.l) fun i x=>ac V.l i),(193,i6 (↑(List.length V.l):Int)),(194,i6 (↑a:Int)),(195,AV.bool (decide ((↑a:Int)<(↑(List.length V.l):Int))))] [cO 2 (nth [i6 p.atoms,ae p.rules]),cO 1 fun x=>fz Y.2 1 (List.length Y.l) fun i x=>ac Y.l i] g)) ⟨fun hcc=>(nomatch (hda.symm.trans hcc)),fun _=>?_⟩
           refine⟨_,Ar _,vcR [[1,1,1,1,1,1,1,1,1,1,1,0,1,0,0,1,1,0,0,1,1,1,1,1,1,0]] (lkL [(52,[2,6,8,23,27,183,184,185]),(53,[2,6,8,183,184,185,241])]) (lkL [(52,[(2,ROrc.call (AV.bool false) [cO 2 (nth [i6 p.atoms,ae p.rules]),cO 1 fun (x:Nat)=>aj Y] g)]),(53,[(3,ROrc.kcall (fz Fz.auto 1 (List.length (foR p (ay a x) a)) fun (i x_1:Nat)=>aC (foR p (ay a x) a) i)),(5,ROrc.kcall (AV.bool false))])]) (fun Q=>(fun (u1:List AObj)=>(fun (u2:St R.σ)=>(fun (u3:AV)=>(fun (u4:AV)=>(true=true/\Does Tryd.prog R 40 [fz Fz.auto 1 (List.length L) fun i x=>fz Fz.auto 1 (List.length (af (List.getD L i 0)).l) fun i_1 x=>ac (af (List.getD L i 0)).l i_1,fn 41 0 (nth []) 1 (nth [ref 1 0])] u1 g (ret (AV.bool false)) u1 g)/\2<=2/\(true=true/\Does Tryd.prog R 38 [av p,u4] u1 g (ret u3) u1 g)/\(true=true/\Does Tryd.prog R 37 [u3,u4] u1 g (ret (AV.bool false)) u1 g)/\(false=true->WpC Tryd.prog R 244 0 8 [1,1,1,1,1,1,1,1,1,1,1,0,1,0,0,1,1,0,0,1,1,1,1,1,1,0] Q [] u2)/\(false=false->Q AEx.normal u2)) (fz Fz.auto 1 (List.length (ay a x)) fun i x_1=>aC (ay a x) i)) (fz Fz.auto 1 (List.length (foR p (ay a x) a)) fun i x_1=>aC (foR p (ay a x) a) i)) (St.mk [(2,ref 0 0),(6,fz V.2 1 (List.length V.l) fun i x=>ac V.l i),(8,fz Fz.auto 1 (List.length L) fun i x=>fz Fz.auto 1 (List.length (af (List.getD L i 0)).l) fun i_1 x=>ac (af (List.getD L i 0)).l i_1),(183,aI b),(184,i6 (↑(List.length b.l):Int)),(185,i6 (↑k:Int)),(241,AV.bool false)] u1 g)) ([cO 2 (nth [i6 p.atoms,ae p.rules]),cO 1 fun x=>fz Y.2 1 (List.length Y.l) fun i x=>ac Y.l i])) ⟨⟨rfl,(hCF _ _)⟩,omg,⟨rfl,(doT (T:=LT) [] 2 (fun R _ g=>hF1 R g))⟩,⟨rfl,(doT (T:=LT) [] 2 (fun R _ g=>hS1 R g))⟩,fun h=>(nomatch h),fun _=>?_⟩⟩
           refine vcR [] (lkL [(55,[2,6,8,183,184,185])]) (fun _=>[]) (fun Q=>(-9223372036854775808<=(↑k:Int)+1/\(↑k:Int)+1<=9223372036854775807)/\Q AEx.normal (St.mk [(2,ref 0 0),(6,fz V.2 1 (List.length V.l) fun i x=>ac V.l i),(8,fz Fz.auto 1 (List.length L) fun i x=>fz Fz.auto 1 (List.length (af (List.getD L i 0)).l) fun i_1 x=>ac (af (List.getD L i 0)).l i_1),(183,aI b),(184,i6 (↑(List.length b.l):Int)),(185,i6 ((↑k:Int)+1))] [cO 2 (nth [i6 p.atoms,ae p.rules]),cO 1 fun x=>fz Y.2 1 (List.length Y.l) fun i x=>ac Y.l i] g)) ⟨omg,?_⟩
           refine(aQ (k+1) (toS [0] 2) ?_ ?_)
           ·omega
           ·omega
       ·obtain rfl:k=b.l.length:=by omega
        have hdk:decide ((b.l.length:Int)<(b.l.length:Int))=false:=decide_eq_false omg
        refine vcR [[1,1,1,1,1,1,1,1,1,1,1,0,1,0,0,1,0,0]] (lkL [(41,[2,6,8,183,184,185,186])]) (fun _=>[]) (fun Q=>(fun (u1:St R.σ)=>(fun (u2:Int)=>(decide (u2<u2)=true->WpC Tryd.prog R 244 0 8 [1,1,1,1,1,1,1,1,1,1,1,0,1,0,0,1,0,0] Q [Kont.seq [1,1,1,1,1,1,1,1,1,1,1,0,1,0,0,1,1]] u1)/\(decide (u2<u2)=false->Q (AEx.exit 8) u1)) ((↑(List.length b.l):Int))) (St.mk [(2,ref 0 0),(6,fz V.2 1 (List.length V.l) fun i x=>ac V.l i),(8,fz Fz.auto 1 (List.length L) fun i x=>fz Fz.auto 1 (List.length (af (List.getD L i 0)).l) fun i_1 x=>ac (af (List.getD L i 0)).l i_1),(183,aI b),(184,i6 (↑(List.length b.l):Int)),(185,i6 (↑(List.length b.l):Int)),(186,AV.bool (decide ((↑(List.length b.l):Int)<(↑(List.length b.l):Int))))] [cO 2 (nth [i6 p.atoms,ae p.rules])] g)) ⟨fun hcc=>(nomatch (hdk.symm.trans hcc)),fun _=>?_⟩
        refine⟨_,Ar _,vcR [] (lkL [(56,[4])]) (lkL [(56,[(0,ROrc.kcall (AV.bool true))])]) (fun Q=>(fun (u1:AObj)=>(true=true/\Does Tryd.prog R 15 [] [u1] g (ret (AV.bool true)) [u1] g)/\Q AEx.ret (St.mk [(4,AV.bool true)] [u1] g)) (cO 2 (nth [i6 p.atoms,ae p.rules]))) ⟨⟨rfl,(doT (T:=LT) [] 1 (fun R _ g=>nZ R g))⟩,?_⟩⟩
        refine(aq (bA _ _ rfl trivial trivial rfl) (Af _))
def QM (x:KL Int):Prop:=QU x/\x.l.length<=9223372036854775807
theorem z4:Rea Tryd.prog 60 1 QM (fun x _=>aI x):=
 Rea.map (mM Tryd.underlying60 krf omg (kx Tryd.underlying65)) n6 (fun x h=>⟨fun v hv=>by
  have:=h.1 v hv
  simp[Lit.wf,IntKind.min,IntKind.max,IntKind.signed,IntKind.bits] at this
  omega,h.2⟩) (fun x j hj=>rfl)
theorem z5:Arg Tryd.prog 60 QM aI:=vi Tryd.underlying60 z4
theorem z6 (R:Res)[Tab LT R](p:Prg)(b:KL Int)(g:R.σ)(hq:QM b):Does Tryd.prog R 8 [av p,aI b] [] g (.ret (.bool true)) [] g:=z3 R p b hq.1 hq.2 g
end Go.Avm.Pack
namespace Go.Proofs.YtbdagmhndndliaaDoor
open Go Go.Avm Go.Avm.Pack Go.WideShapes Go.ChangeShapes Go.ChangeAt
def z7 (cs:Array Value):Obj->Obj
 |.cells _ t frozen=>.cells cs t frozen
 |o=>o
noncomputable def ot (os:Os):World:=
 { World.holding Tryd.prog os ⟨#[],#[],[]⟩ with heap:=(World.holding Tryd.prog os ⟨#[],#[],[]⟩).heap.modify 0 (z7 #[.int .u8 0,.int .u8 1,.int .u8 56,.int .u8 2,.int .u8 57,.int .u8 49,.int .u8 28,.int .u8 3,.int .u8 61,.int .u8 58,.int .u8 42,.int .u8 50,.int .u8 38,.int .u8 29,.int .u8 17,.int .u8 4,.int .u8 62,.int .u8 47,.int .u8 59,.int .u8 36,.int .u8 45,.int .u8 43,.int .u8 51,.int .u8 22,.int .u8 53,.int .u8 39,.int .u8 33,.int .u8 30,.int .u8 24,.int .u8 18,.int .u8 12,.int .u8 5,.int .u8 63,.int .u8 55,.int .u8 48,.int .u8 27,.int .u8 60,.int .u8 41,.int .u8 37,.int .u8 16,.int .u8 46,.int .u8 35,.int .u8 44,.int .u8 21,.int .u8 52,.int .u8 32,.int .u8 23,.int .u8 11,.int .u8 54,.int .u8 26,.int .u8 40,.int .u8 15,.int .u8 34,.int .u8 20,.int .u8 31,.int .u8 10,.int .u8 25,.int .u8 14,.int .u8 19,.int .u8 9,.int .u8 13,.int .u8 8,.int .u8 7,.int .u8 6]) }
theorem z8 (os:Os):laidMet Tryd.prog Rows.tableModelsRow.laid ((ot os).forCall (fun _ _=>0) ⟨#[],#[.agg #[.int .i64 0,.slice none 0 0],.slice none 0 0],[]⟩).memory:=
 laidMet_of_run' 8 (by kernel_rfl) (by kernel_rfl)
theorem z9 (os:Os){H:Type}(enc:TypeId × Value->H):∃places,DataW.whole enc Tryd.prog ((ot os).forCall (fun _ _=>0) ⟨#[],#[.agg #[.int .i64 0,.slice none 0 0],.slice none 0 0],[]⟩).memory Tryd.f8.params.toList Rows.tableModelsSpec.vars false (#[.agg #[.int .i64 0,.slice none 0 0],.slice none 0 0]:Array Value).toList 8=some ([.agg [.lit (.int .i64 0),.nil],.nil],[],places):=
 ⟨[],by kernel_rfl⟩
theorem Aa (W:World)(h:laidMetH Tryd.prog Rows.tableModelsRow.laid W):cI gsT (dc W):=by
 have h:laidMet Tryd.prog [("math/bits.deBruijn64tab",Lib.tabData .u8 gx)] W:=h
 exact vr (t:=164) (e:=5) (n:=64) (by kernel_rfl) (by kernel_rfl) Tryd.underlying164 Tryd.underlying5 (by kernel_rfl) (by kernel_rfl) h (fun _=>vq)
set_option maxRecDepth 100000 in
theorem Ab (os:Os)(started:os.Started)(H:Type)(enc:TypeId × Value->H)(F:Stop.Interp) :
  ReturnsInHanded {} Tryd.checked os 8 .any ((OpenSpec.ofChange Rows.tableModelsSpec).preRow enc Tryd.prog Tryd.f8 Rows.tableModelsRow.domain Rows.tableModelsRow.apart Rows.tableModelsRow.laid) (((OpenSpec.ofChange Rows.tableModelsSpec).at F).post enc Tryd.prog Tryd.f8 Rows.tableModelsRow.apart Rows.tableModelsRow.fresh Rows.tableModelsRow.handsOn Rows.tableModelsRow.again):=by
 obtain⟨places,hx⟩:=z9 os enc
 exact vu (C:=Tryd.checked) (s:=Rows.tableModelsSpec) (tb:=4) (gs:=gsT) (X:=fun l=>∃a:Prg,True/\∃l',(∃b:KL Int,QM b/\∃l'',(l''=[])/\l'=aI b::l'')/\l=av a::l') (by kernel_rfl) started (by kernel_rfl) Tryd.func8
  (witness_row_at (enc:=enc) (C:=Tryd.checked) false (ot os) #[.agg #[.int .i64 0,.slice none 0 0],.slice none 0 0] rfl (by kernel_rfl) (by kernel_rfl) (by kernel_rfl)
   (OpenSpec.preRow_of_cond 8 hx (by kernel_rfl) (fun k hk=>by cases hk) (by kernel_rfl) (z8 os)))
  rfl (fun ds h=>by
   match ds,h with
   |[_,_],_=>rfl) (by kernel_rfl)
  (fun t ht=>by
   have ht:t∈([24,60]:List Nat):=ht
   simp only[List.mem_cons,List.not_mem_nil,or_false] at ht
   rcases ht with rfl|rfl <;> exact⟨by kernel_rfl,of_decide_eq_true (by kernel_rfl)⟩) rfl Tryd.underlying4 Aa
  ((p7 zo (p7 z5 vk)))
  (fun avs ⟨a,ha,_,⟨b,hb,_,e0,e1⟩,e2⟩=>by
   subst e0 e1 e2
   exact z6 (Res.tab gsT) a b () hb)
theorem Ac:Rows.TableModelsSaid:=
 OpenClaim.holds_of_cond 8 Tryd.f8 rfl rfl rfl rfl rfl rfl rfl ⟨rfl,rfl,rfl,rfl,rfl⟩ rfl rfl rfl rfl rfl (by kernel_rfl) Tryd.func8 (by kernel_rfl)
  (of_decide_eq_true (by kernel_rfl)) (by unfold Func.isWrapper;first|(rw[if_pos (by decide +kernel)];kernel_rfl)|(rw[if_neg (by decide +kernel)];exact⟨rfl,rfl⟩))
  (fun os started H enc _ F=>by rw[OpenClaim.pre_eq_preRow];exact Ab os started H enc F)
theorem Ad (f:FuncId)(fn:Func)(hf:Tryd.pinned.checked.prog.funcNamed "swingle/swinglelaw18.TableModels"=some f)(hfn:Tryd.pinned.checked.prog.funcs[f]? = some fn) :
  true=Tryd.pinned.checked.prog.looks []/\∀(j:Nat) t,fn.params[j]? = some t->Tryd.pinned.checked.prog.wantsStandIn t=false:=by
 obtain rfl:f=8:=Option.some.inj ((show Tryd.prog.funcNamed "swingle/swinglelaw18.TableModels"=some 8 by kernel_rfl).symm.trans hf) |>.symm
 obtain rfl:fn=Tryd.f8:=(Option.some.inj (Tryd.func8.symm.trans hfn)).symm
 refine⟨by kernel_rfl,fun j t ht=>?_⟩
 have hm:t∈(Tryd.f8.params).toList:=Array.mem_toList_iff.2 (Array.mem_of_getElem? ht)
 have hm:t∈([24,60]:List Nat):=hm
 simp only[List.mem_cons,List.not_mem_nil,or_false] at hm
 rcases hm with rfl|rfl
 ·exact(show Tryd.prog.wantsStandIn 24=false by kernel_rfl)
 ·exact(show Tryd.prog.wantsStandIn 60=false by kernel_rfl)
theorem tableModels_holds:Rows.TableModelsCardSaid:=
 Claim7.holds_tied_plain_at .later [] _ _ _ _ Ac (fun _ h=>by cases h) (by kernel_rfl) (fun _ h=>by cases h) tableModels_row_tie rfl ⟨rfl,rfl⟩ (by kernel_rfl) rfl Ad (by kernel_rfl)
#print axioms tableModels_holds
end Go.Proofs.YtbdagmhndndliaaDoor
