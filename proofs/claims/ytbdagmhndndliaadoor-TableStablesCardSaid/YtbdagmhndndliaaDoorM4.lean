/- Part 4 of the proof: lemmas. -/
import Derived.Test.YtbdagmhndndliaaDoorM3
namespace Go.Avm.Pack
open Go Go.Avm Go.Proofs
open Go.IntKind (i64 u64)
open Go.Avm.AV (int bool any fz fp sl ow ref fn ifc val agg tup)
open Go.Avm.AObj (cells dead)
open Go.Avm.Oc (ret)
set_option maxRecDepth 4000
def hgF (p:Prg):Nat->Nat->Nat->Nat
 |0,_,s=>s
 |n+1,a,s=>if s.testBit a then s else(ofH p.rules.l (a:Int)).foldl (fun (s:Nat) (r:Rule)=>r.body.l.foldl (fun (s:Nat) (l:Lit)=>hgF p n l.atom.toNat s) s) (s|||2^a)
theorem jV {U β:Type}(f:β->U->β)(s:β)(l:List U)(d:U){i:Nat}(h:i<l.length):(l.take (i+1)).foldl f s=f ((l.take i).foldl f s) (l.getD i d):=by
 rw[List.take_add_one,List.foldl_append,List.getElem?_eq_getElem h,List.getD_eq_getElem?_getD,List.getElem?_eq_getElem h]
 rfl
def upS (f:Nat->Nat):Prop:=∀s,s<2^24->ew s (f s)/\f s<2^24
theorem gx {U:Type}{f:Nat->U->Nat}:∀{l:List U},(∀x,x∈l->upS (fun s=>f s x))->upS (fun s=>l.foldl f s)
 |[],_=>fun s hs=>⟨fun _ h=>h,hs⟩
 |x::l,h=>fun s hs=>by
  obtain⟨h1,h2⟩:=h x List.mem_cons_self s hs
  obtain⟨h3,h4⟩:=gx (l:=l) (fun y hy=>h y (List.mem_cons_of_mem _ hy)) _ h2
  exact⟨fun j hj=>h3 j (h1 j hj),h4⟩
theorem jW {s a:Nat}(hs:s<2^24)(ha:a<24):s|||2^a<2^24:=Nat.or_lt_two_pow hs (Nat.pow_lt_pow_right dcd ha)
theorem eR (s a j:Nat):(s|||2^a).testBit j=(s.testBit j||decide (a=j)):=by
 rw[Nat.testBit_or,Nat.testBit_two_pow]
theorem hG {p:Prg}(hr:∀r,r∈p.rules.l->aH r):∀(n a:Nat),a<24->upS (hgF p n a)
 |0,_,_=>fun s hs=>⟨fun _ h=>h,hs⟩
 |n+1,a,ha=>fun s hs=>by
  show ew s (if s.testBit a then s else _)/\(if s.testBit a then s else _)<2^24
  by_cases hb:s.testBit a=true
  ·rw[if_pos hb];exact⟨fun _ h=>h,hs⟩
  ·rw[if_neg hb]
   have h:=gx (l:=ofH p.rules.l (a:Int)) (f:=fun (s:Nat) (r:Rule)=>r.body.l.foldl (fun (s:Nat) (l:Lit)=>hgF p n l.atom.toNat s) s) (fun r hm=>gx (fun l hl=>hG hr n l.atom.toNat (by
    have:=(hr r (List.mem_filter.1 hm).1).1.2 l hl
    omega))) _ (jW hs ha)
   exact⟨fun j hj=>h.1 j (by rw[eR,hj];rfl),h.2⟩
theorem ol {s t:Nat}(h:ew s t):(al s).length<=(al t).length:=nZ (fun j _ hj=>h j hj)
theorem rI {s a:Nat}(ha:a<24)(h:s.testBit a=false):(al s).length<(al (s|||2^a)).length:=
 jQ (fun j _ hj=>by rw[eR,hj];rfl) ⟨a,List.mem_range.2 ha,by rw[eR];simp,h⟩
theorem ya (p:Prg)(v:Nat->Int)(es:List (Value × AV))(hes:HeadsOk es p.rules.l)(hl:p.rules.l.length<1000000)(hr:∀r,r∈p.rules.l->aH r):∀(n:Nat) (R:Res) (a:Int) (s:Nat) (g:R.σ),0<=a/\a<24->s<2^24->24<n+(al s).length ->
  Does Tryd.prog R 102 [.int .i64 a,.ref 2 0,.ref 3 0,.ref 4 0] [.cells false 27 (ai p v (.mp 1)),.map es,.cells false 1 (fun _=>.int .u64 s),.cells false 1 (fun _=>.ref 0 0),.cells false 1 (fun _=>.fn 102 0 (nth []) 3 (nth [.ref 2 0,.ref 3 0,.ref 4 0]))] g (.ret (.tup 0 (nth []))) [.cells false 27 (ai p v (.mp 1)),.map es,.cells false 1 (fun _=>.int .u64 (hgF p n a.toNat s)),.cells false 1 (fun _=>.ref 0 0),.cells false 1 (fun _=>.fn 102 0 (nth []) 3 (nth [.ref 2 0,.ref 3 0,.ref 4 0]))] g:=by
 intro n
 induction n with
 |zero=>
  intro R a s g _ _ h
  have:=gv s
  omega
 |succ n ih=>
  intro R a s g ha hs hn
  obtain⟨m,hm⟩:∃m:Nat,a=m:=⟨a.toNat,by omega⟩
  subst hm
  have hks:∀e∈es,∃l,Go.keyOf Tryd.prog 3 e.1=some l:=fun e he=>by
   obtain⟨b,e1,e2⟩:=hes.key e he
   rw[e1]
   exact gZ e2
  obtain⟨k,hk1,hk2⟩:∃k:Fz,(ofH p.rules.l m=[]->k=.nil)/\(ofH p.rules.l m≠[]->k=.opn):=⟨if ofH p.rules.l m=[] then .nil else .opn,fun h=>if_pos h,fun h=>if_neg h⟩
  have hlf:(ofH p.rules.l m).length<1000000:=Nat.lt_of_le_of_lt (List.length_filter_le _ _) hl
  have hrf:∀r,r∈ofH p.rules.l m->aH r:=fun r h=>hr r (List.mem_filter.1 h |>.1)
  have hdef:hgF p (n+1) ((m:Int).toNat) s=if s.testBit m then s else(ofH p.rules.l (m:Int)).foldl (fun (s:Nat) (r:Rule)=>r.body.l.foldl (fun (s:Nat) (l:Lit)=>hgF p n l.atom.toNat s) s) (s|||2^m):=rfl
  rw[hdef]
  refine dP (nt:=40) (rs:=[]) (k0:=5) (by kernel_rfl) (by kernel_rfl) (by kernel_rfl) rfl ?_
  refine vcQ [] (lkL [(0,[0,1,2,3,11]),(1,[0,2,3]),(2,[3,21,22,23])]) (lkL [(0,[(2,ROrc.pcall (AV.bool (Nat.testBit s m)))]),(1,[(2,ROrc.pcall (int u64 (↑(2^m):Int))),(4,ROrc.val (Orc.obj (nth [int u64 (IntKind.wrap u64 (↑(BitVec.toNat (BitVec.ofInt 64 (s:Int)|||BitVec.ofInt 64 (↑(2^m):Int))):Int))])))]),(2,[(5,ROrc.kop (ad (KL.mk (ofH p.rules.l (m:Int)) k)))])]) (fun Q=>(fun (u1:List AObj)=>(fun (u2:AV)=>(fun (u3:AV)=>(fun (u4:AV)=>1<=1/\(∀(hp:List AObj) (g:R.σ),true=true/\Does Tryd.prog R 71 [int u64 (s:Int),u4] hp g (ret (AV.bool (Nat.testBit s m))) hp g)/\(Nat.testBit s m=true->Q AEx.ret (St.mk [(0,u4),(1,ref 2 0),(2,ref 3 0),(3,ref 4 0),(11,AV.bool (Nat.testBit s m))] [cells false 27 (ai p v (AV.mp 1)),AObj.map es,cells false 1 fun (x:Nat)=>int u64 (s:Int),cells false 1 fun (x:Nat)=>ref 0 0,cells false 1 fun (x:Nat)=>fn 102 0 (nth []) 3 (nth [ref 2 0,ref 3 0,ref 4 0])] g))/\(Nat.testBit s m=false->Tables.follows Tryd.prog.toTables Departure.mixedOrders=true/\1<=1/\(∀(hp:List AObj) (g:R.σ),true=true/\Does Tryd.prog R 79 [u4] hp g (ret (int u64 (↑(2^m):Int))) hp g)/\1<=1/\(∀(c:Nat),c<1->nth [u3] c=ah (fun (x:Nat)=>int u64 (s:Int)) 0 1 (fun (x:Nat)=>u3) c)/\1<=1/\27<=27/\OpOk Tryd.prog R (Oper.mk (some 21) (Op.lookup 96 (Operand.tmp 19) (Operand.tmp 20) false) 22 "table.go:248" #[Edge.mk 3 Ground.data,Edge.mk 4 Ground.data] none) (evO [Row.mk (some 20) none u4 false (some []) [],Row.mk (some 19) none (AV.mp 1) false (some []) [0],Row.mk (some 18) none (ref 0 26) false (some []) [],Row.mk (some 17) none (ref 0 0) false (some []) [],Row.mk (some 16) none (ref 0 0) false (some []) [3]] [(0,u4),(2,ref 3 0),(3,ref 4 0)] []) u1 g u2 u1 g/\Wp Tryd.prog R 40 5 Rd.top (aD Tryd.prog 102) [1,1,1,0] (aT Tryd.prog R 40 5 Rd.top (aD Tryd.prog 102) Q [Kont.blk 0]) (St.mk [(3,ref 4 0),(21,u2),(22,int i64 (↑((ofH p.rules.l (m:Int)).length):Int)),(23,int i64 0)] u1 g))) (int i64 (m:Int))) (int u64 (IntKind.wrap u64 (↑(BitVec.toNat (BitVec.ofInt 64 (s:Int)|||BitVec.ofInt 64 (↑(2^m):Int))):Int)))) (fz k 2 ((ofH p.rules.l (m:Int)).length) fun (i:Nat)=>bB ((ofH p.rules.l (m:Int)).getD i default))) ([cells false 27 (ai p v (AV.mp 1)),AObj.map es,cells false 1 (nth [int u64 (IntKind.wrap u64 (↑(BitVec.toNat (BitVec.ofInt 64 (s:Int)|||BitVec.ofInt 64 (↑(2^m):Int))):Int))]),cells false 1 fun (x:Nat)=>ref 0 0,cells false 1 fun (x:Nat)=>fn 102 0 (nth []) 3 (nth [ref 2 0,ref 3 0,ref 4 0])])) (fun _=>by kernel_rfl) ⟨by omega,(fun _ _=>⟨rfl,(jJ _ _ _ (by omega) (by omega) _ _)⟩),fun c1=>?_,fun c1=>⟨by kernel_rfl,by omega,(fun _ _=>⟨rfl,(gX _ _ (by omega) _ _)⟩),by omega,(fun c hc=>match c,hc with|0,_=>(by kernel_rfl) ),by omega,by omega,?_,?_⟩⟩
  ·rw[if_pos c1]
   refine(aw (aX _ _ rfl trivial rfl rfl rfl) (Av _))
  ·by_cases h0:ofH p.rules.l m=[]
   ·rw[hk1 h0,h0]
    exact qx (t:=96) (kt:=3) (vt:=22) (m:=.tmp 19) (x:=.tmp 20) (ob:=1) (es:=es) (kv:=.int .i64 m) rfl (by kernel_rfl) (Go.Maps.int_keyed (q:=.i64) (by kernel_rfl)) rfl (by exact Le.nil) rfl rfl (fun FM Z v h=>h) (gZ (by omega)) hks (hes.miss m h0)
   ·rw[hk2 h0]
    exact qw (t:=96) (kt:=3) (vt:=22) (m:=.tmp 19) (x:=.tmp 20) (ob:=1) (es:=es) (kv:=.int .i64 m) (d:=ad ⟨ofH p.rules.l m,.opn⟩) rfl (by kernel_rfl) (Go.Maps.int_keyed (q:=.i64) (by kernel_rfl)) rfl rfl (fun FM Z v h=>h) (gZ (by omega)) hks (hes.hit m h0).1 (hes.hit m h0).2
  ·rw[if_neg (by rw[c1];decide)]
   obtain⟨t,ht⟩:∃t,s|||2^m=t:=⟨_,rfl⟩
   have ht24:t<2^24:=by rw[<-ht];exact jW hs (by omega)
   have htn:24<n+(al t).length:=by
    have:=rI (s:=s) (a:=m) (by omega) c1
    rw[ht] at this
    omega
   obtain⟨L,hL⟩:∃L,ofH p.rules.l (m:Int)=L:=⟨_,rfl⟩
   rw[hL] at hlf hrf
   have hor:u64.wrap ((BitVec.ofInt 64 (s:Int)|||BitVec.ofInt 64 (2^m)).toNat:Int)=(t:Int):=by
    rw[<-ht]
    exact Tb.u64_or (bV hs) (bV (Nat.pow_lt_pow_right (by decide) (by omega)))
   obtain⟨F,hF⟩:∃F:Nat->Rule->Nat,F=fun (s:Nat) (r:Rule)=>r.body.l.foldl (fun (s:Nat) (l:Lit)=>hgF p n l.atom.toNat s) s:=⟨_,rfl⟩
   rw[ht,hL,hor,<-hF]
   have hup:∀r,r∈L->upS (fun s=>F s r):=fun r hm=>by
    rw[hF]
    exact gx (fun l hl=>hG hr n l.atom.toNat (by have:=(hrf r hm).1.2 l hl;omega))
   have huT:∀i,ew t ((L.take i).foldl F t)/\(L.take i).foldl F t<2^24:=fun i=>gx (f:=F) (l:=L.take i) (fun r hm=>hup r (List.mem_of_mem_take hm)) t ht24
   refine(aZ (by kernel_rfl) (fun (i:Nat)=>⟨[(3,ref 4 0),(21,fz k 2 (L.length) fun (i:Nat)=>bB (L.getD i default)),(22,int i64 (L.length:Int)),(23,.int .i64 i)],[.cells false 27 (ai p v (.mp 1)),.map es,.cells false 1 (fun _=>.int .u64 ((L.take i).foldl F t:Nat)),.cells false 1 (fun _=>.ref 0 0),.cells false 1 (fun _=>.fn 102 0 (nth []) 3 (nth [.ref 2 0,.ref 3 0,.ref 4 0]))],g⟩) (fun (i:Nat)=>(i<=L.length)) (fun (i:Nat)=>(L.length-i)) 0 (ju ⟨Av _,Av _,Av _,(Aw (by kernel_rfl)),trivial⟩ ⟨Ax,rfl,⟨rfl,Nat.le_refl _,fun j hj=>match j,hj with|0,_=>(Aw (by kernel_rfl)) ⟩,Ax,Ax,trivial⟩ rfl) ?_ (fun i hi=>?_))
   ·exact Nat.zero_le _
   ·obtain⟨hu1,hu2⟩:=huT i
    rcases Nat.lt_or_ge i L.length with hlt|hge
    ·have hq:=hrf _ (fV hlt)
     have hq1:=hq.1.1
     have hstep:=jV F t L default hlt
     obtain⟨u,hu⟩:∃u,(L.take i).foldl F t=u:=⟨_,rfl⟩
     rw[hu] at hu1 hu2 hstep ⊢
     obtain⟨B,hB⟩:∃B,(L.getD i default).body=B:=⟨_,rfl⟩
     have hFB:F u (L.getD i default)=B.l.foldl (fun (s:Nat) (l:Lit)=>hgF p n l.atom.toNat s) u:=by rw[hF,<-hB]
     have hBl:∀l,l∈B.l->0<=l.atom/\l.atom<24:=by rw[<-hB];exact hq.1.2
     have huB:∀j,ew u ((B.l.take j).foldl (fun (s:Nat) (l:Lit)=>hgF p n l.atom.toNat s) u)/\(B.l.take j).foldl (fun (s:Nat) (l:Lit)=>hgF p n l.atom.toNat s) u<2^24:=fun j=>gx (f:=fun (s:Nat) (l:Lit)=>hgF p n l.atom.toNat s) (fun l hm=>hG hr n l.atom.toNat (by have:=hBl l (List.mem_of_mem_take hm);omega)) u hu2
     rw[hFB] at hstep
     rw[hB] at hq1
     refine vcQ [] (lkL [(3,[3,21,22,23,24]),(4,[3,6,21,22,23]),(5,[3,21,22,23,28,29,30])]) (lkL [(4,[(3,ROrc.val (Orc.obj (nth [int i64 (L.getD i default).head,ao (L.getD i default).body])))])]) (fun Q=>(fun (u1:Int)=>(fun (u2:List AV)=>(fun (u3:Int)=>(fun (u4:AObj)=>(fun (u5:AV)=>(decide (u3<u1)=true->(0<=u3/\u3<u1)/\2<=2/\2<=2/\(∀(c:Nat),c<2->nth u2 c=ah (nth [int i64 0,fz Fz.nil 0 0 fun _ _=>any]) 0 2 (List.brecOn (motive:=fun (x:List AV)=>Nat->AV) u2 nth._f) c)/\2<=2/\Wp Tryd.prog R 40 5 Rd.top (aD Tryd.prog 102) [1,1,1,0,0,1,1,0,0,1,1,0] (aT Tryd.prog R 40 5 Rd.top (aD Tryd.prog 102) Q [Kont.blk 2,Kont.blk 1,Kont.seq [1,1,1,0,0,1,1,1]]) (St.mk [(3,ref 4 0),(21,u5),(22,int i64 u1),(23,int i64 u3),(28,ao (L.getD i default).body),(29,int i64 (↑((L.getD i default).body.l.length):Int)),(30,int i64 0)] [cells false 27 (ai p v (AV.mp 1)),AObj.map es,cells false 1 fun (x:Nat)=>int u64 (u:Int),cells false 1 fun (x:Nat)=>ref 0 0,u4,cells false 2 (nth u2)] g))/\(decide (u3<u1)=false->Q (AEx.exit 0) (St.mk [(3,ref 4 0),(21,u5),(22,int i64 u1),(23,int i64 u3),(24,AV.bool (decide (u3<u1)))] [cells false 27 (ai p v (AV.mp 1)),AObj.map es,cells false 1 fun (x:Nat)=>int u64 (u:Int),cells false 1 fun (x:Nat)=>ref 0 0,u4] g))) (fz k 2 (L.length) fun (i:Nat)=>bB (L.getD i default))) (cells false 1 fun (x:Nat)=>fn 102 0 (nth []) 3 (nth [ref 2 0,ref 3 0,ref 4 0]))) ((i:Int))) ([int i64 (L.getD i default).head,ao (L.getD i default).body])) ((L.length:Int))) (fun _=>by kernel_rfl) ⟨fun c1=>have c1:(i:Int)<(L.length:Int):=(of_decide_eq_true c1);⟨by omega,by omega,by omega,(fun c hc=>match c,hc with|0,_=>(by kernel_rfl)|1,_=>(by kernel_rfl) ),by omega,?_⟩,fun c1=>have c1:¬(i:Int)<(L.length:Int):=(of_decide_eq_false c1);?_⟩
     ·rw[hB]
      refine(aZ (by kernel_rfl) (fun (j:Nat)=>⟨[(3,ref 4 0),(21,fz k 2 (L.length) fun (i:Nat)=>bB (L.getD i default)),(22,int i64 (L.length:Int)),(23,int i64 (i:Int)),(28,ao B),(29,int i64 (B.l.length:Int)),(30,.int .i64 j)],[.cells false 27 (ai p v (.mp 1)),.map es,.cells false 1 (fun _=>.int .u64 ((B.l.take j).foldl (fun (s:Nat) (l:Lit)=>hgF p n l.atom.toNat s) u:Nat)),.cells false 1 (fun _=>.ref 0 0),.cells false 1 (fun _=>.fn 102 0 (nth []) 3 (nth [.ref 2 0,.ref 3 0,.ref 4 0])),.cells false 2 (nth [.int .i64 (L.getD i default).head,ao B])],g⟩) (fun (j:Nat)=>(j<=B.l.length)) (fun (j:Nat)=>(B.l.length-j)) 0 (ju ⟨Av _,Av _,Av _,Av _,Av _,Av _,(Aw (by kernel_rfl)),trivial⟩ ⟨Ax,rfl,Ax,Ax,Ax,Ax,trivial⟩ rfl) ?_ (fun j hi=>?_))
      ·exact Nat.zero_le _
      ·obtain⟨hj1,hj2⟩:=huB j
       rcases Nat.lt_or_ge j B.l.length with hjl|hjg
       ·have hs2:=jV (fun (s:Nat) (l:Lit)=>hgF p n l.atom.toNat s) u B.l default hjl
        have hat:=hBl _ (bZ B.l default hjl)
        obtain⟨z,hz⟩:∃z,(B.l.take j).foldl (fun (s:Nat) (l:Lit)=>hgF p n l.atom.toNat s) u=z:=⟨_,rfl⟩
        rw[hz] at hj1 hj2 hs2 ⊢
        have hcz:24<n+(al z).length:=by
         have a1:=ol hj1
         have a2:=ol hu1
         omega
        refine vcQ [] (lkL [(6,[3,21,22,23,28,29,30,31]),(7,[3,8,21,22,23,28,29,30]),(8,[3,21,22,23,28,29,30]),(9,[3,21,22,23,28,29,30])]) (lkL [(7,[(3,ROrc.val (Orc.obj (nth [int i64 (B.l.getD j default).atom,AV.bool (B.l.getD j default).neg])))]),(8,[(3,ROrc.call (tup 0 (nth [])) [cells false 27 (ai p v (AV.mp 1)),AObj.map es,cells false 1 fun (j_1:Nat)=>int u64 (↑(hgF p n ((B.l.getD j default).atom.toNat) z):Int),cells false 1 fun (x:Nat)=>ref 0 0,cells false 1 fun (x:Nat)=>fn 102 0 (nth []) 3 (nth [ref 2 0,ref 3 0,ref 4 0]),cells false 2 (nth [int i64 (L.getD i default).head,ao B]),cells false 2 (nth [int i64 (B.l.getD j default).atom,AV.bool (B.l.getD j default).neg])] g)])]) (fun Q=>(fun (u1:List AObj)=>(fun (u2:Int)=>(fun (u3:List AObj)=>(fun (u4:Int)=>(fun (u5:Lit)=>(fun (u6:AV)=>(decide (u4<u2)=true->(0<=u4/\u4<u2)/\2<=2/\2<=2/\(∀(c:Nat),c<2->nth [int i64 u5.atom,AV.bool u5.neg] c=ah (nth [int i64 0,AV.bool false]) 0 2 (List.brecOn (motive:=fun (x:List AV)=>Nat->AV) [int i64 u5.atom,AV.bool u5.neg] nth._f) c)/\1<=1/\1<=2/\(true=true/\Does Tryd.prog R 102 [int i64 u5.atom,ref 2 0,ref 3 0,ref 4 0] (cells false 27 (ai p v (AV.mp 1))::AObj.map es::(cells false 1 fun (x:Nat)=>int u64 (z:Int))::u1) g (ret (tup 0 (nth []))) u3 g)/\(-9223372036854775808<=u4+1/\u4+1<=9223372036854775807)/\Q AEx.normal (St.mk [(3,ref 4 0),(21,u6),(22,int i64 (L.length:Int)),(23,int i64 (i:Int)),(28,ao B),(29,int i64 u2),(30,int i64 (u4+1))] u3 g))/\(decide (u4<u2)=false->Q (AEx.exit 2) (St.mk [(3,ref 4 0),(21,u6),(22,int i64 (L.length:Int)),(23,int i64 (i:Int)),(28,ao B),(29,int i64 u2),(30,int i64 u4),(31,AV.bool (decide (u4<u2)))] [cells false 27 (ai p v (AV.mp 1)),AObj.map es,cells false 1 fun (x:Nat)=>int u64 (z:Int),cells false 1 fun (x:Nat)=>ref 0 0,cells false 1 fun (x:Nat)=>fn 102 0 (nth []) 3 (nth [ref 2 0,ref 3 0,ref 4 0]),cells false 2 (nth [int i64 (L.getD i default).head,ao B])] g))) (fz k 2 (L.length) fun (i:Nat)=>bB (L.getD i default))) (B.l.getD j default)) ((j:Int))) (cells false 27 (ai p v (AV.mp 1))::AObj.map es::(cells false 1 fun (j_1:Nat)=>int u64 (↑(hgF p n ((B.l.getD j default).atom.toNat) z):Int))::u1)) ((B.l.length:Int))) ([cells false 1 fun (x:Nat)=>ref 0 0,cells false 1 fun (x:Nat)=>fn 102 0 (nth []) 3 (nth [ref 2 0,ref 3 0,ref 4 0]),cells false 2 (nth [int i64 (L.getD i default).head,ao B]),cells false 2 (nth [int i64 (B.l.getD j default).atom,AV.bool (B.l.getD j default).neg])])) (fun _=>by kernel_rfl) ⟨fun c1=>have c1:(j:Int)<(B.l.length:Int):=(of_decide_eq_true c1);⟨by omega,by omega,by omega,(fun c hc=>match c,hc with|0,_=>(by kernel_rfl)|1,_=>(by kernel_rfl) ),by omega,by omega,⟨rfl,(fP [0,1,2,3,4] 7 (fun R g=>ih R ((B.l.getD j default).atom) (z) g (by omega) (by omega) (by omega)) rfl rfl rfl (by exact⟨⟨rfl,Nat.le_refl _,fun j hj=>(by first|exact bu (by first|exact trivial|apply bm)|exact Aw (cB rfl).symm|exact Aw (cL (by rfl)).symm)⟩,rfl,⟨rfl,Nat.le_refl _,fun j hj=>match j,hj with|0,_=>(Av _) ⟩,⟨rfl,Nat.le_refl _,fun j hj=>match j,hj with|0,_=>(Av _) ⟩,⟨rfl,Nat.le_refl _,fun j hj=>match j,hj with|0,_=>(Le.fn (fun i hi=>absurd hi (by omega)) (fun i hi=>match i,hi with|0,_=>(Av _)|1,_=>(Av _)|2,_=>(Av _) )) ⟩,trivial⟩) (by exact⟨by omega,by omega,by omega,by omega,trivial⟩) (by exact⟨bu (by exact trivial),Av _,Av _,Av _,trivial⟩) (by exact bF (by exact trivial)) (by exact⟨⟨rfl,Nat.le_refl _,fun j hj=>(by first|exact bF (by first|exact trivial|apply bm)|exact Aw (cB rfl)|exact Aw (cL (by rfl)))⟩,rfl,Ax,⟨rfl,Nat.le_refl _,fun j hj=>match j,hj with|0,_=>(Av _) ⟩,⟨rfl,Nat.le_refl _,fun j hj=>match j,hj with|0,_=>(Le.fn (fun i hi=>absurd hi (by omega)) (fun i hi=>match i,hi with|0,_=>(Av _)|1,_=>(Av _)|2,_=>(Av _) )) ⟩,Ax,Ax,trivial⟩))⟩,by omega,?_⟩,fun c1=>have c1:¬(j:Int)<(B.l.length:Int):=(of_decide_eq_false c1);?_⟩
        ·refine(aL (j+1) (eG [0,1,2,3,4,5] 7 rfl rfl rfl rfl rfl ⟨Av _,Av _,Av _,Av _,Av _,Av _,Av _,trivial⟩ ⟨⟨by first|rfl|(simp;done),by first|exact Nat.le_refl _|(simp;done)|(simp;omega),fun j hj=>(by first|exact bu (by first|exact trivial|apply bm)|exact Aw (cB rfl).symm|exact Aw (cL (by rfl)).symm)⟩,rfl,⟨rfl,Nat.le_refl _,fun j hj=>match j,hj with|0,_=>(Aw ?_) ⟩,⟨rfl,Nat.le_refl _,fun j hj=>match j,hj with|0,_=>(Av _) ⟩,⟨rfl,Nat.le_refl _,fun j hj=>match j,hj with|0,_=>(Le.fn (fun i hi=>absurd hi (by omega)) (fun i hi=>match i,hi with|0,_=>(Av _)|1,_=>(Av _)|2,_=>(Av _) )) ⟩,⟨rfl,Nat.le_refl _,fun j hj=>match j,hj with|0,_=>(Av _)|1,_=>(Av _) ⟩,trivial⟩) ?_ ?_)
         ·show AV.int .u64 _=AV.int .u64 _
          rw[hs2]
         ·omega
         ·omega
        ·exfalso;omega
       ·have hje:j=B.l.length:=by omega
        subst hje
        rw[List.take_length,<-hstep]
        have hb:decide ((B.l.length:Int)<(B.l.length:Int))=false:=decide_eq_false (by omega)
        refine vcQ [[1,1,1,0,0,1,1,0,0,1,1,0,0,1,0,0]] (lkL [(6,[3,21,22,23,28,29,30,31])]) (fun _=>[]) (fun Q=>(fun (u1:St R.σ)=>(fun (u2:Int)=>(decide (u2<u2)=true->Wp Tryd.prog R 40 5 Rd.top (aD Tryd.prog 102) [1,1,1,0,0,1,1,0,0,1,1,0,0,1,0,0] (aT Tryd.prog R 40 5 Rd.top (aD Tryd.prog 102) Q [Kont.seq [1,1,1,0,0,1,1,0,0,1,1,0,0,1,1]]) u1)/\(decide (u2<u2)=false->Q (AEx.exit 2) u1)) ((B.l.length:Int))) (St.mk [(3,ref 4 0),(21,fz k 2 (L.length) fun (i:Nat)=>bB (L.getD i default)),(22,int i64 (L.length:Int)),(23,int i64 (i:Int)),(28,ao B),(29,int i64 (B.l.length:Int)),(30,int i64 (B.l.length:Int)),(31,AV.bool (decide ((B.l.length:Int)<(B.l.length:Int))))] [cells false 27 (ai p v (AV.mp 1)),AObj.map es,cells false 1 fun (x:Nat)=>int u64 (↑(List.foldl F t (List.take (i+1) L)):Int),cells false 1 fun (x:Nat)=>ref 0 0,cells false 1 fun (x:Nat)=>fn 102 0 (nth []) 3 (nth [ref 2 0,ref 3 0,ref 4 0]),cells false 2 (nth [int i64 (L.getD i default).head,ao B])] g)) (fun _=>by kernel_rfl) ⟨fun hcc=>(nomatch (hb.symm.trans hcc)),fun _=>?_⟩
        refine⟨_,AH _,vcQ [] (lkL [(10,[3,21,22,23])]) (fun _=>[]) (fun Q=>(-9223372036854775808<=(i:Int)+1/\(i:Int)+1<=9223372036854775807)/\Q AEx.normal (St.mk [(3,ref 4 0),(21,fz k 2 (L.length) fun (i:Nat)=>bB (L.getD i default)),(22,int i64 (L.length:Int)),(23,int i64 ((i:Int)+1))] [cells false 27 (ai p v (AV.mp 1)),AObj.map es,cells false 1 fun (x:Nat)=>int u64 (↑(List.foldl F t (List.take (i+1) L)):Int),cells false 1 fun (x:Nat)=>ref 0 0,cells false 1 fun (x:Nat)=>fn 102 0 (nth []) 3 (nth [ref 2 0,ref 3 0,ref 4 0]),cells false 2 (nth [int i64 (L.getD i default).head,ao B])] g)) (fun _=>by kernel_rfl) ⟨by omega,?_⟩⟩
        refine(aL (i+1) (eG [0,1,2,3,4] 6 rfl rfl rfl rfl rfl ⟨Av _,Av _,Av _,Av _,trivial⟩ ⟨⟨by first|rfl|(simp;done),by first|exact Nat.le_refl _|(simp;done)|(simp;omega),fun j hj=>(by first|exact bu (by first|exact trivial|apply bm)|exact Aw (cB rfl).symm|exact Aw (cL (by rfl)).symm)⟩,rfl,⟨rfl,Nat.le_refl _,fun j hj=>match j,hj with|0,_=>(Av _) ⟩,⟨rfl,Nat.le_refl _,fun j hj=>match j,hj with|0,_=>(Av _) ⟩,⟨rfl,Nat.le_refl _,fun j hj=>match j,hj with|0,_=>(Le.fn (fun i hi=>absurd hi (by omega)) (fun i hi=>match i,hi with|0,_=>(Av _)|1,_=>(Av _)|2,_=>(Av _) )) ⟩,trivial⟩) ?_ ?_)
        ·omega
        ·omega
     ·exfalso;omega
    ·have hie:i=L.length:=by omega
     subst hie
     rw[List.take_length]
     have hb:decide ((L.length:Int)<(L.length:Int))=false:=decide_eq_false (by omega)
     refine vcQ [[1,1,1,0,0,1,0,0]] (lkL [(3,[3,21,22,23,24])]) (fun _=>[]) (fun Q=>(fun (u1:St R.σ)=>(fun (u2:Int)=>(decide (u2<u2)=true->Wp Tryd.prog R 40 5 Rd.top (aD Tryd.prog 102) [1,1,1,0,0,1,0,0] (aT Tryd.prog R 40 5 Rd.top (aD Tryd.prog 102) Q [Kont.seq [1,1,1,0,0,1,1]]) u1)/\(decide (u2<u2)=false->Q (AEx.exit 0) u1)) ((L.length:Int))) (St.mk [(3,ref 4 0),(21,fz k 2 (L.length) fun (i:Nat)=>bB (L.getD i default)),(22,int i64 (L.length:Int)),(23,int i64 (L.length:Int)),(24,AV.bool (decide ((L.length:Int)<(L.length:Int))))] [cells false 27 (ai p v (AV.mp 1)),AObj.map es,cells false 1 fun (x:Nat)=>int u64 (↑(List.foldl F t L):Int),cells false 1 fun (x:Nat)=>ref 0 0,cells false 1 fun (x:Nat)=>fn 102 0 (nth []) 3 (nth [ref 2 0,ref 3 0,ref 4 0])] g)) (fun _=>by kernel_rfl) ⟨fun hcc=>(nomatch (hb.symm.trans hcc)),fun _=>?_⟩
     refine⟨_,AH _,(aw (aX _ _ rfl trivial rfl rfl rfl) (Av _))⟩
def hgP (p:Prg)(a:Nat):Nat:=hgF p 25 a 0
theorem rJ (R:Res)(p:Prg)(a:Int)(hl:p.rules.l.length<1000000)(hr:∀r,r∈p.rules.l->aH r)(ha:0<=a/\a<24)(hp:List AObj)(g:R.σ):Does Tryd.prog R 70 [au p,.int .i64 a] hp g (.ret (.int .u64 (hgP p a.toNat))) hp g:=by
 refine bR (fun R g=>?_) (by exact⟨⟨⟨trivial,trivial⟩,trivial⟩,trivial,trivial⟩) R hp g
 have hes:=rb hr
 have hz:(0:Nat)<2^24:=by decide
 have hc:24<25+(al 0).length:=by omega
 have h1:=fun R g=>ya p (fun _=>3) (esF p.rules.l) hes hl hr 25 R a 0 g ha hz hc
 refine dP (nt:=15) (rs:=[.tmp 4]) (k0:=0) (by kernel_rfl) (by kernel_rfl) (by kernel_rfl) rfl ?_
 refine vcQ [] (lkL [(0,[1,2]),(1,[1,5]),(2,[1,5,6]),(3,[1,5,6,7]),(4,[1,6,7]),(5,[6]),(6,[4])]) (lkL [(1,[(1,ROrc.call (ref 1 0) [cells false 2 (nth [int i64 p.atoms,ad p.rules]),cells false 27 (ai p (fun (x:Nat)=>3) (AV.mp 2)),AObj.map (esF p.rules.l)] g),(3,ROrc.val (Orc.obj (nth [ref 1 0])))]),(4,[(1,ROrc.val (Orc.obj (nth [fn 102 0 (nth []) 3 (nth [ref 4 0,ref 3 0,ref 5 0])])))]),(5,[(2,ROrc.call (tup 0 (nth [])) [cells false 2 (nth [int i64 p.atoms,ad p.rules]),cells false 27 (ai p (fun (x:Nat)=>3) (AV.mp 2)),AObj.map (esF p.rules.l),cells false 1 (nth [ref 1 0]),cells false 1 fun (j:Nat)=>int u64 (↑(hgF p 25 (a.toNat) 0):Int),cells false 1 (nth [fn 102 0 (nth []) 3 (nth [ref 4 0,ref 3 0,ref 5 0])])] g)])]) (fun Q=>(fun (u1:List AObj)=>(fun (u2:AObj)=>(fun (u3:AV)=>(fun (u4:AObj)=>2<=2/\(true=true/\Does Tryd.prog R 66 [au p] [u2] g (ret (ref 1 0)) [u2,u4,AObj.map (esF p.rules.l)] g)/\1<=1/\(∀(c:Nat),c<1->nth [ref 1 0] c=ah (fun (a:Nat)=>AV.nilp) 0 1 (fun (x:Nat)=>ref 1 0) c)/\1<=1/\(∀(c:Nat),c<1->nth [u3] c=ah (fun (a:Nat)=>AV.nilf) 0 1 (fun (x:Nat)=>u3) c)/\1<=1/\(true=true/\Does Tryd.prog R 102 [int i64 a,ref 4 0,ref 3 0,ref 5 0] [u2,u4,AObj.map (esF p.rules.l),cells false 1 (nth [ref 1 0]),cells false 1 fun (a:Nat)=>int u64 0,cells false 1 (nth [u3])] g (ret (tup 0 (nth []))) u1 g)/\1<=1/\Q AEx.ret (St.mk [(4,int u64 (↑(hgF p 25 (a.toNat) 0):Int))] u1 g)) (cells false 27 (ai p (fun (x:Nat)=>3) (AV.mp 2)))) (fn 102 0 (nth []) 3 (nth [ref 4 0,ref 3 0,ref 5 0]))) (cells false 2 (nth [int i64 p.atoms,ad p.rules]))) ([cells false 2 (nth [int i64 p.atoms,ad p.rules]),cells false 27 (ai p (fun (x:Nat)=>3) (AV.mp 2)),AObj.map (esF p.rules.l),cells false 1 (nth [ref 1 0]),cells false 1 fun (j:Nat)=>int u64 (↑(hgF p 25 (a.toNat) 0):Int),cells false 1 (nth [fn 102 0 (nth []) 3 (nth [ref 4 0,ref 3 0,ref 5 0])])])) (fun _=>by kernel_rfl) ⟨by omega,⟨rfl,(n9 _ _ _ (by omega) (by omega) _)⟩,by omega,(fun c hc=>match c,hc with|0,_=>(by kernel_rfl) ),by omega,(fun c hc=>match c,hc with|0,_=>(by kernel_rfl) ),by omega,⟨rfl,(fP [1,2,4,3,5] 6 (fun R g=>h1 R g) rfl rfl rfl (by exact⟨⟨rfl,Nat.le_refl _,fun j hj=>(by first|exact bu (by first|exact trivial|apply bm)|exact Aw (cB rfl).symm|exact Aw (cL (by rfl)).symm)⟩,rfl,⟨rfl,Nat.le_refl _,fun j hj=>match j,hj with|0,_=>(Av _) ⟩,⟨rfl,Nat.le_refl _,fun j hj=>match j,hj with|0,_=>(Av _) ⟩,⟨rfl,Nat.le_refl _,fun j hj=>match j,hj with|0,_=>(Le.fn (fun i hi=>absurd hi (by omega)) (fun i hi=>match i,hi with|0,_=>(Av _)|1,_=>(Av _)|2,_=>(Av _) )) ⟩,trivial⟩) (by exact⟨by omega,by omega,by omega,by omega,trivial⟩) (by exact⟨bu (by exact trivial),Av _,Av _,Av _,trivial⟩) (by exact bF (by exact trivial)) (by exact⟨Ax,⟨rfl,Nat.le_refl _,fun j hj=>(by first|exact bF (by first|exact trivial|apply bm)|exact Aw (cB rfl)|exact Aw (cL (by rfl)))⟩,rfl,⟨rfl,Nat.le_refl _,fun j hj=>match j,hj with|0,_=>(Av _) ⟩,Ax,⟨rfl,Nat.le_refl _,fun j hj=>match j,hj with|0,_=>(Le.fn (fun i hi=>absurd hi (by omega)) (fun i hi=>match i,hi with|0,_=>(Av _)|1,_=>(Av _)|2,_=>(Av _) )) ⟩,trivial⟩))⟩,by omega,?_⟩
 refine(aw (bt _ _ rfl trivial trivial rfl) (Aw (by kernel_rfl)))
def ag (s:Nat):KL Int:=⟨aU s,.auto⟩
theorem iW (R:Res)[Tab LT R](s:Nat)(hs:s<2^24)(g:R.σ):Does Tryd.prog R 75 [.fn 105 0 (nth []) 1 (nth [.ref 0 0])] [.cells false 1 (fun _=>.int .u64 s)] g (.ret (aj (ag s))) [.cells false 1 (fun _=>.any)] g:=
 eK (xH R s hs g) (toL (h1:=⟨AB (fY s).symm (fun i j hi hj=>by
  show AV.int .i64 _=AV.int .i64 ((aU s).getD i 0)
  rw[jO]),trivial⟩) (h2:=⟨Ay _,trivial⟩))
theorem hH {p:Prg}(hr:∀r,r∈p.rules.l->aH r){a:Nat}(ha:a<24):hgP p a<2^24:=(hG hr 25 a ha 0 dcd).2
def az (p:Prg)(a:Nat):Nat:=(al (hgP p a)).foldl (fun (s:Nat) (b:Nat)=>if (hgP p b).testBit a then s|||2^b else s) 0
def onC (p:Prg):Nat->AV:=fun k=>.int .u64 (hgP p k)
theorem qI {k:Nat}(p:Prg)(j:Nat):Below k (onC p j):=trivial
theorem qQ {f:Nat->Nat}(h:True){p:Prg}{j:Nat}:aN f (onC p j)=onC p j:=rfl
theorem om {p:Prg}{a:Nat}:∀{l:List Nat} {s:Nat},(∀b,b∈l->b<24)->s<2^24->l.foldl (fun (s:Nat) (b:Nat)=>if (hgP p b).testBit a then s|||2^b else s) s<2^24
 |[],_,_,hs=>hs
 |b::l,s,hl,hs=>by
  rw[List.foldl_cons]
  refine om (fun c hc=>hl c (List.mem_cons_of_mem _ hc)) ?_
  split
  ·exact jW hs (hl b List.mem_cons_self)
  ·exact hs
theorem rK (p:Prg)(a:Nat):az p a<2^24:=om (fun b hb=>jP hb) dcd
theorem lO (R:Res)[Tab LT R](p:Prg)(n:Nat)(a:Int)(hr:∀r,r∈p.rules.l->aH r)(hn:n<=24)(ha:0<=a/\a<n)(hin:∀b,b∈al (hgP p a.toNat)->b<n)(g:R.σ):Does Tryd.prog R 82 [.int .i64 a,.ref 0 0] [.cells false 1 (fun _=>.ow true 1 n 1),.cells false (n*1) (onC p)] g (.ret (.int .u64 (az p a.toNat))) [.cells false 1 (fun _=>.ow true 1 n 1),.cells false (n*1) (onC p)] g:=by
 obtain⟨m,rfl⟩:∃m:Nat,a=m:=⟨a.toNat,omg⟩
 rw[Int.toNat_natCast] at hin ⊢
 have hlt:hgP p m<2^24:=hH hr omg
 refine spW (nt:=23) (rs:=[.tmp 3]) (k0:=2) ?_
 refine vcR [] (lkL [(0,[1,2]),(1,[1,2,4]),(2,[1,2,4,10])]) (lkL [(2,[(4,ROrc.call (fn 105 0 (nth []) 1 (nth [ref (List.length [cells false 1 fun (x:Nat)=>ow true 1 n 1,cells false (n*1) fun (a:Nat)=>onC p a,cells false 1 fun (a:Nat)=>int i64 (↑m:Int),cells false 1 fun (a:Nat)=>int u64 0]) 0])) ([cells false 1 fun (x:Nat)=>ow true 1 n 1,cells false (n*1) fun (a:Nat)=>onC p a,cells false 1 fun (a:Nat)=>int i64 (↑m:Int),cells false 1 fun (a:Nat)=>int u64 0]++[cells false 1 fun (x:Nat)=>int u64 (↑(hgP p m):Int)]) g)])]) (fun Q=>(fun (u1:List AObj)=>1<=1/\1<=1/\(0<=(↑m:Int)/\(↑m:Int)<(↑n:Int))/\m+1<=n*1/\(true=true/\Does Tryd.prog R 77 [onC p m] [cells false 1 fun x=>ow true 1 n 1,cells false (n*1) fun a=>onC p a,cells false 1 fun a=>int i64 (↑m:Int),cells false 1 fun a=>int u64 0] g (ret (fn 105 0 (nth []) 1 (nth [ref 4 0]))) u1 g)/\WpC Tryd.prog R 23 2 82 [1,1,0,1,0] Q [Kont.blk 0,Kont.seq [1,1,1]] (St.mk [(1,ref 0 0),(2,ref 2 0),(4,ref 3 0),(10,fn 105 0 (nth []) 1 (nth [ref 4 0]))] u1 g)) ([cells false 1 fun x=>ow true 1 n 1,cells false (n*1) fun a=>onC p a,cells false 1 fun a=>int i64 (↑m:Int),cells false 1 fun a=>int u64 0,cells false 1 fun x=>onC p m])) ⟨omg,omg,omg,omg,⟨rfl,(dt _ _ _ _)⟩,?_⟩
 have hseq:=nI (hgP p m) hlt
 obtain⟨l,hle⟩:∃l,al (hgP p m)=l:=⟨_,rfl⟩
 have hw:az p m=l.foldl (fun (s:Nat) (b:Nat)=>if (hgP p b).testBit m then s|||2^b else s) 0:=by unfold az;rw[hle]
 rw[hle] at hseq hin
 have hin2:∀k,k<l.length->l.getD k 0<n:=fun k hk=>hin _ (bZ l 0 hk)
 refine lb 10 [11] 4 krf rfl rfl rfl hseq (fun _=>rfl) krf (fun _=>⟨trivial,trivial⟩)
  (fun _=>none) (fun _=>rfl)
  (fun k=>[.cells false 1 (fun _=>.ow true 1 n 1),.cells false (n*1) (onC p),.cells false 1 (fun _=>.int .i64 m),.cells false 1 (fun _=>.int .u64 ((l.take k).foldl (fun (s:Nat) (b:Nat)=>if (hgP p b).testBit m then s|||2^b else s) 0:Nat))])
  (fun _=>g) (iJ rfl rfl) (fun _=>rfl) (by exact⟨omg,omg,omg,omg,omg,trivial⟩) (by exact⟨fun _ _=>show 1<4 by omega,fun _ _=>trivial,fun _ _=>trivial,fun _ _=>trivial,trivial⟩) (by exact⟨fun _ _=>trivial,trivial⟩) [1,2,4] (by exact⟨show 0<4 by omega,show 2<4 by omega,show 3<4 by omega,trivial⟩) (fun k l' hk hjk=>?_) (fun _=>?_) (fun k hk hj hr=>by cases hr) (fun k id hk hj hr=>by cases hr)
 ·obtain⟨b,hb⟩:∃b,l.getD k 0=b:=⟨_,rfl⟩
  have hbn:b<n:=by rw[<-hb];exact hin2 k hk
  have hb24:hgP p b<2^24:=hH hr omg
  have hst:=jV (fun (s:Nat) (b:Nat)=>if (hgP p b).testBit m then s|||2^b else s) 0 l 0 hk
  obtain⟨t,ht⟩:∃t,(l.take k).foldl (fun (s:Nat) (b:Nat)=>if (hgP p b).testBit m then s|||2^b else s) 0=t:=⟨_,rfl⟩
  have ht24:t<2^24:=by
   rw[<-ht]
   exact om (fun c hc=>by
    have h1:=List.mem_of_mem_take hc
    rw[<-hle] at h1
    exact jP h1) dcd
  rw[hb,ht] at hst
  rw[hb,ht,hst]
  refine vcR [] (lkL [(3,[1,2,4,5])]) (fun _=>[]) (fun (Q:AEx->St R.σ->Prop)=>Q AEx.normal (St.mk [(1,ref 0 0),(2,ref 2 0),(4,ref 3 0),(5,int i64 (↑b:Int))] [cells false 1 fun (x:Nat)=>ow true 1 n 1,cells false (n*1) fun (a:Nat)=>onC p a,cells false 1 fun (x:Nat)=>int i64 (↑m:Int),cells false 1 fun (x:Nat)=>int u64 (↑t:Int)] g)) (?_)
  show Wp _ _ _ 4 _ _ _ _ _
  refine vcR [] (lkL [(4,[4,5,17]),(5,[4])]) (lkL [(4,[(5,ROrc.pcall (AV.bool (Nat.testBit (hgP p b) m)))]),(5,[(2,ROrc.pcall (int u64 (↑(2^b):Int))),(4,ROrc.val (Orc.obj (nth [int u64 (IntKind.wrap u64 (↑(BitVec.toNat (BitVec.ofInt 64 (↑t:Int)|||BitVec.ofInt 64 (↑(2^b):Int))):Int))])))])]) (fun Q=>(fun (u1:AV)=>(fun (u2:Bool)=>(fun (u3:Bool)=>u3=true/\1<=1/\(0<=(↑b:Int)/\(↑b:Int)<(↑n:Int))/\b+1<=n*1/\1<=1/\(∀(hp:List AObj) (g:R.σ),true=true/\Does Tryd.prog R 71 [onC p b,int i64 (↑m:Int)] hp g (ret (AV.bool u2)) hp g)/\(u2=true->u3=true/\1<=1/\(∀(hp:List AObj) (g:R.σ),true=true/\Does Tryd.prog R 79 [int i64 (↑b:Int)] hp g (ret (int u64 (↑(2^b):Int))) hp g)/\1<=1/\(∀(c:Nat),c<1->nth [u1] c=ah (fun (x:Nat)=>int u64 (↑t:Int)) 0 1 (fun (x:Nat)=>u1) c)/\Q AEx.normal (St.mk [(4,ref 3 0)] [cells false 1 fun x=>ow true 1 n 1,cells false (n*1) fun a=>onC p a,cells false 1 fun x=>int i64 (↑m:Int),cells false 1 (nth [u1])] g))/\(u2=false->Q AEx.normal (St.mk [(4,ref 3 0),(5,int i64 (↑b:Int)),(17,AV.bool u2)] [cells false 1 fun x=>ow true 1 n 1,cells false (n*1) fun a=>onC p a,cells false 1 fun x=>int i64 (↑m:Int),cells false 1 fun x=>int u64 (↑t:Int)] g))) (Tables.follows Tryd.prog.toTables Departure.mixedOrders)) (Nat.testBit (hgP p b) m)) (int u64 (IntKind.wrap u64 (↑(BitVec.toNat (BitVec.ofInt 64 (↑t:Int)|||BitVec.ofInt 64 (↑(2^b):Int))):Int)))) ⟨krf,omg,omg,omg,omg,(fun _ _=>⟨rfl,(jJ _ _ _ omg omg _ _)⟩),fun c1=>⟨krf,omg,(fun _ _=>⟨rfl,(gX _ _ omg _ _)⟩),omg,(fun c hc=>match c,hc with|0,_=>krf ),?_⟩,fun c1=>?_⟩
  ·refine(gn rfl (toL (h2:=⟨Ax,Ax,Ax,⟨rfl,Nat.le_refl _,fun j hj=>match j,hj with|0,_=>(Aw ?_) ⟩,trivial⟩)))
   show AV.int .u64 _=AV.int .u64 _
   rw[if_pos c1]
   congr 1
   exact Tb.u64_or (bV ht24) (bV (Nat.pow_lt_pow_right dcd omg))
  ·refine(gn rfl (toL (h2:=⟨Ax,Ax,Ax,⟨rfl,Nat.le_refl _,fun j hj=>match j,hj with|0,_=>(Aw ?_) ⟩,trivial⟩)))
   show AV.int .u64 _=AV.int .u64 _
   rw[if_neg (by rw[c1];decide)]
 ·rw[List.take_length,<-hw]
  refine vcR [] (lkL [(6,[3])]) (fun _=>[]) (fun Q=>1<=1/\Q AEx.ret (St.mk [(3,int u64 (↑(az p m):Int))] [cells false 1 fun x=>ow true 1 n 1,cells false (n*1) fun a=>onC p a,cells false 1 fun x=>int i64 (↑m:Int),cells false 1 fun x=>int u64 (↑(az p m):Int),dead] g)) ⟨omg,?_⟩
  show a9 Tryd.prog R 2 _ _ _ _ .ret _
  refine(aw (bv 2 _ _ rfl trivial omg trivial ⟨(fun j hj=>match j,hj with|0,_=>(show 2<=2 by omega) ),(fun _ _=>trivial),trivial⟩ krf rfl rfl) (Av _))
def jX (p:Prg)(a b:Nat):Prop:=∃r,r∈p.rules.l/\r.head=(a:Int)/\∃l,l∈r.body.l/\l.atom.toNat=b
inductive Reach (p:Prg):Nat->Nat->Prop
 |refl (a:Nat):Reach p a a
 |step {a b c:Nat} (h:jX p a b) (k:Reach p b c):Reach p a c
theorem Reach.trans {p:Prg}{a b c:Nat}(h:Reach p a b)(k:Reach p b c):Reach p a c:=by
 induction h with
 |refl a=>exact k
 |step h _ ih=>exact .step h (ih k)
def hP (p:Prg)(a:Nat):List Nat:=(ofH p.rules.l (a:Int)).flatMap (fun r=>r.body.l.map (fun l=>l.atom.toNat))
theorem oo {p:Prg}{a b:Nat}:b∈hP p a↔jX p a b:=by
 unfold hP jX ofH
 simp only[List.mem_flatMap,List.mem_map,List.mem_filter,beq_iff_eq]
 constructor
 ·rintro ⟨r,⟨h1,h2⟩,l,h3,h4⟩
  exact⟨r,h1,h2,l,h3,h4⟩
 ·rintro ⟨r,h1,h2,l,h3,h4⟩
  exact⟨r,⟨h1,h2⟩,l,h3,h4⟩
theorem rL (p:Prg)(n a s:Nat):hgF p (n+1) a s=if s.testBit a then s else(hP p a).foldl (fun (s:Nat) (b:Nat)=>hgF p n b s) (s|||2^a):=by
 show(if s.testBit a then s else _)=_
 congr 1
 unfold hP
 rw[List.foldl_flatMap]
 congr 1
 funext s r
 rw[List.foldl_map]
def oq (p:Prg)(s t:Nat):Prop:=∀x,t.testBit x=true->s.testBit x=false->∀y,jX p x y->t.testBit y=true
theorem rM {p:Prg}(hr:∀r,r∈p.rules.l->aH r){a b:Nat}(h:b∈hP p a):b<24:=by
 obtain⟨r,h1,_,l,h3,rfl⟩:=oo.1 h
 have:=(hr r h1).1.2 l h3
 omega
theorem rN {p:Prg}(hr:∀r,r∈p.rules.l->aH r){n:Nat}(ih:∀a s,a<24->s<2^24->24<n+(al s).length->(hgF p n a s).testBit a=true/\oq p s (hgF p n a s)):∀(L:List Nat) (s:Nat),(∀b,b∈L->b<24)->s<2^24->24<n+(al s).length ->
  (∀b,b∈L->(L.foldl (fun (s:Nat) (b:Nat)=>hgF p n b s) s).testBit b=true)/\oq p s (L.foldl (fun (s:Nat) (b:Nat)=>hgF p n b s) s)
 |[],s,_,_,_=>⟨fun b hb=>(by cases hb),fun x h1 h2=>by rw[List.foldl_nil] at h1;rw[h1] at h2;cases h2⟩
 |b::L,s,hL,hs,hn=>by
  have hb:=hL b List.mem_cons_self
  obtain⟨u1,u2⟩:=hG hr n b hb s hs
  obtain⟨a1,a2⟩:=ih b s hb hs hn
  have hn':24<n+(al (hgF p n b s)).length:=by have:=ol u1;omega
  obtain⟨c1,c2⟩:=rN hr ih L (hgF p n b s) (fun c hc=>hL c (List.mem_cons_of_mem _ hc)) u2 hn'
  have up:=(gx (l:=L) (f:=fun (s:Nat) (b:Nat)=>hgF p n b s) (fun c hc=>hG hr n c (hL c (List.mem_cons_of_mem _ hc))) _ u2).1
  rw[List.foldl_cons]
  refine⟨fun c hc=>?_,fun x h1 h2 y hy=>?_⟩
  ·rcases List.mem_cons.1 hc with rfl|hc
   ·exact up _ a1
   ·exact c1 c hc
  ·by_cases hx:(hgF p n b s).testBit x=true
   ·exact up _ (a2 x hx h2 y hy)
   ·exact c2 x h1 (by simpa using hx) y hy
theorem rO {p:Prg}(hr:∀r,r∈p.rules.l->aH r):∀(n a s:Nat),a<24->s<2^24->24<n+(al s).length->(hgF p n a s).testBit a=true/\oq p s (hgF p n a s)
 |0,a,s,_,_,h=>by have:=gv s;omega
 |n+1,a,s,ha,hs,h=>by
  rw[rL]
  by_cases hb:s.testBit a=true
  ·rw[if_pos hb]
   exact⟨hb,fun x h1 h2=>by rw[h1] at h2;cases h2⟩
  ·rw[if_neg hb]
   have hb:s.testBit a=false:=by simpa using hb
   have hs1:=jW hs ha
   have hn1:24<n+(al (s|||2^a)).length:=by have:=rI ha hb;omega
   obtain⟨c1,c2⟩:=rN hr (rO hr n) (hP p a) _ (fun b hb=>rM hr hb) hs1 hn1
   have up:=(gx (l:=hP p a) (f:=fun (s:Nat) (b:Nat)=>hgF p n b s) (fun c hc=>hG hr n c (rM hr hc)) _ hs1).1
   have haT:=up a (by rw[eR];simp)
   refine⟨haT,fun x h1 h2 y hy=>?_⟩
   by_cases hxa:x=a
   ·subst hxa
    exact c1 y (oo.2 hy)
   ·exact c2 x h1 (by rw[eR,h2];simp;exact fun e=>hxa e.symm) y hy
theorem rP {p:Prg}:∀(n a s b:Nat),(hgF p n a s).testBit b=true->s.testBit b=true∨Reach p a b
 |0,_,_,_,h=>.inl h
 |n+1,a,s,b,h=>by
  rw[rL] at h
  by_cases hb:s.testBit a=true
  ·rw[if_pos hb] at h;exact .inl h
  ·rw[if_neg hb] at h
   have key:∀(L:List Nat) (s:Nat),(∀c,c∈L->jX p a c)->(L.foldl (fun (s:Nat) (b:Nat)=>hgF p n b s) s).testBit b=true->s.testBit b=true∨Reach p a b:=by
    intro L
    induction L with
    |nil=>intro s _ h;exact .inl h
    |cons c L ih=>
     intro s hL h
     rw[List.foldl_cons] at h
     rcases ih _ (fun d hd=>hL d (List.mem_cons_of_mem _ hd)) h with h|h
     ·rcases rP n c s b h with h|h
      ·exact .inl h
      ·exact .inr (.step (hL c List.mem_cons_self) h)
     ·exact .inr h
   rcases key _ _ (fun c hc=>oo.1 hc) h with h|h
   ·rw[eR,Bool.or_eq_true,decide_eq_true_eq] at h
    rcases h with h|h
    ·exact .inl h
    ·subst h;exact .inr (.refl _)
   ·exact .inr h
theorem eA {p:Prg}(hr:∀r,r∈p.rules.l->aH r){a b:Nat}(ha:a<24):(hgP p a).testBit b=true↔Reach p a b:=by
 have hc:=rO hr 25 a 0 ha dcd omg
 constructor
 ·intro h
  rcases rP 25 a 0 b h with h|h
  ·simp at h
  ·exact h
 ·have key:∀x y,Reach p x y->(hgP p a).testBit x=true->(hgP p a).testBit y=true:=by
   intro x y h
   induction h with
   |refl=>exact fun h=>h
   |step h _ ih=>exact fun hx=>ih (hc.2 _ hx (by simp) _ h)
  exact fun h=>key a b h hc.1
theorem yb {p:Prg}(hl:∀r,r∈p.rules.l->∀l,l∈r.body.l->0<=l.atom/\l.atom<p.atoms){a b:Nat}(h:Reach p a b):a=b∨(b:Int)<p.atoms:=by
 induction h with
 |refl=>exact .inl rfl
 |step h k ih=>
  obtain⟨r,h1,_,l,h3,rfl⟩:=h
  have:=hl r h1 l h3
  rcases ih with rfl|h
  ·exact .inr omg
  ·exact .inr h
def dJ (s t:Nat):Nat:=(BitVec.ofNat 64 s &&& ~~~ BitVec.ofNat 64 t).toNat
theorem jY {s t:Nat}(hs:s<2^24)(j:Nat):(dJ s t).testBit j=(s.testBit j && !t.testBit j):=by
 unfold dJ
 rw[BitVec.testBit_toNat,BitVec.getLsbD_and,BitVec.getLsbD_not,BitVec.getLsbD_ofNat,BitVec.getLsbD_ofNat]
 by_cases hj:j<64
 ·simp only[hj,decide_true,Bool.true_and]
 ·rw[Nat.testBit_lt_two_pow (x:=s) (Nat.lt_of_lt_of_le (bV hs) (Nat.pow_le_pow_right dcd omg))]
  simp[hj]
theorem rQ {s t:Nat}:dJ s t<=s:=by
 unfold dJ
 rw[BitVec.toNat_and]
 refine Nat.le_trans Nat.and_le_left ?_
 rw[BitVec.toNat_ofNat]
 exact Nat.mod_le _ _
theorem ot {s t:Nat}(hs:s<2^24):IntKind.u64.wrap ((BitVec.ofInt 64 (s:Int) &&& ~~~ BitVec.ofInt 64 (t:Int)).toNat:Int)=((dJ s t:Nat):Int):=by
 rw[BitVec.ofInt_natCast,BitVec.ofInt_natCast]
 exact Tb.wrapU (bV (Nat.lt_of_le_of_lt (rQ (t:=t)) hs))
theorem yd {s:Nat}:s=0↔∀j,s.testBit j=false:=by
 constructor
 ·rintro rfl j;simp
 ·intro h
  exact Nat.eq_of_testBit_eq (fun j=>by rw[h j];simp)
theorem rR {p:Prg}{a j:Nat}:∀{l:List Nat} {s:Nat},(l.foldl (fun (s:Nat) (b:Nat)=>if (hgP p b).testBit a then s|||2^b else s) s).testBit j=(s.testBit j||l.any (fun b=>b==j&&(hgP p b).testBit a))
 |[],s=>by simp
 |b::l,s=>by
  rw[List.foldl_cons,rR,List.any_cons]
  cases hb:(hgP p b).testBit a with
  |true=>
   rw[if_pos rfl,eR,Bool.and_true,Bool.or_assoc]
   congr 2
  |false=>
   rw[if_neg dcd,Bool.and_false,Bool.false_or]
theorem ou {p:Prg}(hr:∀r,r∈p.rules.l->aH r){a j:Nat}(ha:a<24):(az p a).testBit j=true↔Reach p a j/\Reach p j a/\j<24:=by
 unfold az
 rw[rR]
 simp only[Nat.zero_testBit,Bool.false_or,List.any_eq_true,Bool.and_eq_true,beq_iff_eq]
 constructor
 ·rintro ⟨b,h1,rfl,h2⟩
  obtain⟨m1,m2⟩:=Tb.mem_memN.1 h1
  exact⟨(eA hr ha).1 m2,(eA hr m1).1 h2,m1⟩
 ·rintro ⟨h1,h2,h3⟩
  exact⟨j,Tb.mem_memN.2 ⟨h3,(eA hr ha).2 h1⟩,rfl,(eA hr h3).2 h2⟩
def eS (p:Prg)(left a:Nat):Bool:=dJ (hgP p a&&&left) (az p a)==0
theorem ye {p:Prg}(hr:∀r,r∈p.rules.l->aH r){left a:Nat}(hl:left<2^24)(ha:a<24):eS p left a=true↔∀b,Reach p a b->left.testBit b=true->Reach p b a:=by
 unfold eS
 have hlt:hgP p a&&&left<2^24:=Nat.lt_of_le_of_lt Nat.and_le_right hl
 rw[beq_iff_eq,yd]
 constructor
 ·intro h b hb hbl
  have hb24:=g7 hl hbl
  have:=h b
  rw[jY hlt,Nat.testBit_and,(eA hr ha).2 hb,hbl] at this
  have h2:(az p a).testBit b=true:=by simpa using this
  exact((ou hr ha).1 h2).2.1
 ·intro h j
  rw[jY hlt,Nat.testBit_and]
  cases h1:(hgP p a).testBit j with
  |false=>rfl
  |true=>
   cases h2:left.testBit j with
   |false=>rfl
   |true=>
    have h3:=(eA hr ha).1 h1
    rw[(ou hr ha).2 ⟨h3,h j h3 h2,g7 hl h2⟩]
    rfl
theorem yf {p:Prg}(hr:∀r,r∈p.rules.l->aH r){left:Nat}(hl:left<2^24)(h0:left≠0):∃a,a∈al left/\eS p left a=true:=by
 have key:∀(n a:Nat),a∈al left->(al (hgP p a&&&left)).length<=n->∃a,a∈al left/\eS p left a=true:=by
  intro n
  induction n with
  |zero=>
   intro a ha h
   obtain⟨m1,m2⟩:=Tb.mem_memN.1 ha
   have:a∈al (hgP p a&&&left):=Tb.mem_memN.2 ⟨m1,by rw[Nat.testBit_and,(eA hr m1).2 (.refl a),m2];rfl⟩
   rw[List.length_eq_zero_iff.1 (Nat.le_zero.1 h)] at this
   cases this
  |succ n ih=>
   intro a ha h
   obtain⟨m1,m2⟩:=Tb.mem_memN.1 ha
   by_cases hok:eS p left a=true
   ·exact⟨a,ha,hok⟩
   ·have hne:¬∀b,Reach p a b->left.testBit b=true->Reach p b a:=fun h=>hok ((ye hr hl m1).2 h)
    obtain⟨b,hb⟩:=Classical.not_forall.1 hne
    obtain⟨hb1,hb2⟩:=Classical.not_imp.1 hb
    obtain⟨hb2,hb3⟩:=Classical.not_imp.1 hb2
    have hb24:=g7 hl hb2
    refine ih b (Tb.mem_memN.2 ⟨hb24,hb2⟩) ?_
    have:(al (hgP p b&&&left)).length<(al (hgP p a&&&left)).length:=by
     refine jQ (fun j _ hj=>?_) ⟨a,List.mem_range.2 m1,?_,?_⟩
     ·rw[Nat.testBit_and,Bool.and_eq_true] at hj ⊢
      exact⟨(eA hr m1).2 (hb1.trans ((eA hr hb24).1 hj.1)),hj.2⟩
     ·rw[Nat.testBit_and,(eA hr m1).2 (.refl a),m2];rfl
     ·rw[Nat.testBit_and]
      cases hx:(hgP p b).testBit a with
      |false=>rfl
      |true=>exact absurd ((eA hr hb24).1 hx) hb3
    omega
 obtain⟨k,m,h⟩:=Tb.low_of (show 0<left by omega)
 have hk:left.testBit k=true:=by rw[Tb.low_bit h];simp
 exact key _ k (Tb.mem_memN.2 ⟨g7 hl hk,hk⟩) (Nat.le_refl _)
def iX (p:Prg)(left:Nat):Nat:=(al left).findIdx (eS p left)
def dV (p:Prg)(left:Nat):Nat:=(al left).getD (iX p left) 0
def jZ (p:Prg):Nat->Nat->List Nat
 |0,_=>[]
 |n+1,left=>if left=0 then[] else az p (dV p left)::jZ p n (dJ left (az p (dV p left)))
def cD (p:Prg):List Nat:=jZ p 25 (2^p.atoms.toNat-1)
theorem rS {p:Prg}(hr:∀r,r∈p.rules.l->aH r){left:Nat}(hl:left<2^24)(h0:left≠0):iX p left<(al left).length/\eS p left (dV p left)=true/\(∀j,j<iX p left->eS p left ((al left).getD j 0)=false)/\dV p left∈al left:=by
 obtain⟨a,h1,h2⟩:=yf hr hl h0
 have hk:iX p left<(al left).length:=List.findIdx_lt_length_of_exists ⟨a,h1,h2⟩
 have e:dV p left=(al left)[iX p left]:=by
  unfold dV
  rw[List.getD_eq_getElem?_getD,List.getElem?_eq_getElem hk]
  rfl
 refine⟨hk,by rw[e];exact List.findIdx_getElem (w:=hk),fun j hj=>?_,by rw[e];exact List.getElem_mem hk⟩
 have:=List.not_of_lt_findIdx (p:=eS p left) (xs:=al left) hj
 rw[List.getD_eq_getElem?_getD,List.getElem?_eq_getElem omg]
 simpa using this
theorem yg {p:Prg}(hr:∀r,r∈p.rules.l->aH r){left:Nat}(hl:left<2^24)(h0:left≠0):(al (dJ left (az p (dV p left)))).length<(al left).length:=by
 obtain⟨_,h2,_,h4⟩:=rS hr hl h0
 obtain⟨m1,m2⟩:=Tb.mem_memN.1 h4
 refine jQ (fun j _ hj=>?_) ⟨dV p left,List.mem_range.2 m1,m2,?_⟩
 ·rw[jY hl,Bool.and_eq_true] at hj
  exact hj.1
 ·rw[jY hl,(ou hr m1).2 ⟨.refl _,.refl _,m1⟩]
  simp
theorem rT (R:Res)(on:Nat)(a:Int)(hon:on<2^24)(ha:0<=a/\a<24)(g:R.σ):Does Tryd.prog R 73 [.int .i64 a,.ref 0 0] [.cells false 1 (fun _=>.int .u64 on)] g (.ret (.bool (!on.testBit a.toNat))) [.cells false 1 (fun _=>.int .u64 on)] g:=by
 refine spW (nt:=8) (rs:=[.tmp 3]) (k0:=1) ?_
 refine vcR [] (lkL [(0,[0,1]),(1,[3])]) (lkL [(1,[(2,ROrc.pcall (AV.bool (Nat.testBit on (Int.toNat a))))])]) (fun Q=>1<=1/\(∀(hp:List AObj) (g:R.σ),true=true/\Does Tryd.prog R 71 [int u64 (↑on:Int),int i64 a] hp g (ret (AV.bool (Nat.testBit on (Int.toNat a)))) hp g)/\Q AEx.ret (St.mk [(3,AV.bool !Nat.testBit on (Int.toNat a))] [cells false 1 fun x=>int u64 (↑on:Int)] g)) ⟨omg,(fun _ _=>⟨rfl,(nN _ _ _ omg omg _ _)⟩),?_⟩
 refine(aw (aX _ _ rfl trivial rfl rfl rfl) (Av _))
def cr (on:Nat)(a:Int):Bool:= !on.testBit a.toNat
theorem yh {U:Type}(q:U->Bool)(x:U)(r:List U)(i:Nat):aO q (x::r) i=if q x then(i:Int) else aO q r (i+1):=rfl
theorem rU (R:Res)(l:List Int)(on:Nat)(hon:on<2^24)(hl:l.length<1000000)(ha:∀a,a∈l->0<=a/\a<24)(g:R.σ):Does Tryd.prog R 103 [.ow true 0 l.length 1,.fn 73 0 (nth []) 1 (nth [.ref 1 0])] [.cells false (l.length*1) (ab l),.cells false 1 (fun _=>.int .u64 on)] g (.ret (.int .i64 (aO (cr on) l 0))) [.cells false (l.length*1) (ab l),.cells false 1 (fun _=>.int .u64 on)] g:=by
 refine spW (nt:=19) (rs:=[.tmp 4]) (k0:=2) ?_
 refine vcR [] (lkL [(0,[0,1]),(1,[0,1,7,8])]) (fun _=>[]) (fun (Q:AEx->St R.σ->Prop)=>WpC Tryd.prog R 19 2 103 [1,0,1,0] Q [Kont.blk 0,Kont.seq [1,1]] (St.mk [(0,ow true 0 (List.length l) 1),(1,fn 73 0 (nth []) 1 (nth [ref 1 0])),(7,int i64 (↑(List.length l):Int)),(8,int i64 0)] [cells false (List.length l*1) fun (a:Nat)=>ab l a,cells false 1 fun (x:Nat)=>int u64 (↑on:Int)] g)) (?_)
 refine(aZ krf (fun (i:Nat)=>⟨[(0,ow true 0 (l.length) 1),(1,fn 73 0 (nth []) 1 (nth [ref 1 0])),(7,int i64 (l.length:Int)),(8,.int .i64 (i:Int))],[cells false (l.length*1) fun (a:Nat)=>ab l a,cells false 1 fun (x:Nat)=>int u64 (on:Int)],g⟩) (fun (i:Nat)=>(i<=l.length/\aO (cr on) l 0=aO (cr on) (l.drop i) i)) (fun (i:Nat)=>(l.length-i)) 0 (aV ⟨Av _,Av _,Av _,(Aw krf),trivial⟩ rfl rfl) ?_ (fun i hi=>?_))
 ·exact⟨Nat.zero_le _,rfl⟩
 ·obtain⟨h1,h2⟩:=hi
  rcases Nat.lt_or_ge i l.length with hlt|hge
  ·have hat:=ha _ (bZ l 0 hlt)
   have hd:=gU l 0 hlt
   rw[hd,yh] at h2
   refine vcR [] (lkL [(2,[0,1,7,8,9]),(3,[0,1,5,7,8]),(4,[0,1,5,7,8,16]),(5,[4]),(6,[0,1,7,8])]) (lkL [(4,[(5,ROrc.kcall (AV.bool !Nat.testBit on (Int.toNat (List.getD l i 0))))])]) (fun Q=>(fun (u1:List AObj)=>(fun (u2:Int)=>(fun (u3:Int)=>(fun (u4:Bool)=>(decide (u3<u2)=true->(0<=u3/\u3<u2)/\i+1<=List.length l*1/\(true=true/\Does Tryd.prog R 73 [ab l i,ref 1 0] u1 g (ret (AV.bool u4)) u1 g)/\(u4=true->Q AEx.ret (St.mk [(4,int i64 u3)] u1 g))/\(u4=false->(-9223372036854775808<=u3+1/\u3+1<=9223372036854775807)/\Q AEx.normal (St.mk [(0,ow true 0 (List.length l) 1),(1,fn 73 0 (nth []) 1 (nth [ref 1 0])),(7,int i64 u2),(8,int i64 (u3+1))] u1 g)))/\(decide (u3<u2)=false->Q (AEx.exit 0) (St.mk [(0,ow true 0 (List.length l) 1),(1,fn 73 0 (nth []) 1 (nth [ref 1 0])),(7,int i64 u2),(8,int i64 u3),(9,AV.bool (decide (u3<u2)))] u1 g))) (!Nat.testBit on (Int.toNat (List.getD l i 0)))) ((↑i:Int))) ((↑(List.length l):Int))) ([cells false (List.length l*1) fun a=>ab l a,cells false 1 fun x=>int u64 (↑on:Int)])) ⟨fun c1=>have c1:(↑i:Int)<(↑(List.length l):Int):=(of_decide_eq_true c1);⟨omg,omg,⟨rfl,(doS [1] 2 (fun R g=>rT R (on) (List.getD l i 0) omg omg g))⟩,fun c2=>have c2:Nat.testBit on (Int.toNat (List.getD l i 0))=false:=((Bool.not_eq_true' _).mp c2);?_,fun c2=>have c2:Nat.testBit on (Int.toNat (List.getD l i 0))=true:=((Bool.not_eq_false' _).mp c2);⟨omg,?_⟩⟩,fun c1=>have c1:¬(↑i:Int)<(↑(List.length l):Int):=(of_decide_eq_false c1);?_⟩
   ·have hq:cr on (l.getD i 0)=true:=by unfold cr;rw[c2];rfl
    rw[if_pos hq] at h2
    rw[h2]
    refine⟨_,AH _,(aw (aX _ _ rfl trivial rfl rfl rfl) (Av _))⟩
   ·have hq:cr on (l.getD i 0)=false:=by unfold cr;rw[c2];rfl
    rw[if_neg (by rw[hq];decide)] at h2
    refine(aL (i+1) (aV ⟨Av _,Av _,Av _,(Aw krf),trivial⟩ rfl rfl) ?_ ?_)
    ·exact⟨omg,h2⟩
    ·omega
   ·exfalso;omega
  ·have hie:i=l.length:=by omega
   subst hie
   rw[List.drop_length] at h2
   have hb:decide ((l.length:Int)<(l.length:Int))=false:=decide_eq_false omg
   refine vcR [[1,0,1,0,0,1,0,0]] (lkL [(2,[0,1,7,8,9])]) (fun _=>[]) (fun Q=>(fun (u1:Int)=>(fun (u2:St R.σ)=>(decide (u1<u1)=true->WpC Tryd.prog R 19 2 103 [1,0,1,0,0,1,0,0] Q [Kont.seq [1,0,1,0,0,1,1]] u2)/\(decide (u1<u1)=false->Q (AEx.exit 0) u2)) (St.mk [(0,ow true 0 (List.length l) 1),(1,fn 73 0 (nth []) 1 (nth [ref 1 0])),(7,int i64 u1),(8,int i64 u1),(9,AV.bool (decide (u1<u1)))] [cells false (List.length l*1) fun a=>ab l a,cells false 1 fun x=>int u64 (↑on:Int)] g)) ((↑(List.length l):Int))) ⟨fun hcc=>(nomatch (hb.symm.trans hcc)),fun _=>?_⟩
   refine⟨_,AH _,vcR [] (lkL [(7,[4])]) (fun _=>[]) (fun (Q:AEx->St R.σ->Prop)=>Q AEx.ret (St.mk [(4,int i64 (-1))] [cells false (List.length l*1) fun (a:Nat)=>ab l a,cells false 1 fun (x:Nat)=>int u64 (↑on:Int)] g)) (?_)⟩
   rw[h2]
   refine(aw (aX _ _ rfl trivial rfl rfl rfl) (Aw krf))
def cm (on:Nat)(l:List Int)(j:Nat):List Int:=(l.take j).filter (fun a=>on.testBit a.toNat)
def ct (on:Nat)(l:List Int)(j:Nat):Nat->AV:=fun c=>if c<(cm on l j).length then .int .i64 ((cm on l j).getD c 0) else if j<=c then .int .i64 (l.getD c 0) else .any
theorem qK {k:Nat}(on:Nat)(l:List Int)(j c:Nat):Below k (ct on l j c):=by
 unfold ct
 split
 ·trivial
 ·split <;> trivial
theorem qU {f:Nat->Nat}(h:True){on:Nat}{l:List Int}{j c:Nat}:aN f (ct on l j c)=ct on l j c:=by
 unfold ct
 split
 ·rfl
 ·split <;> rfl
theorem rV {on:Nat}{l:List Int}{j:Nat}(h:j<l.length):cm on l (j+1)=if on.testBit (l.getD j 0).toNat then cm on l j++[l.getD j 0] else cm on l j:=by
 unfold cm
 rw[List.take_add_one,List.filter_append,List.getElem?_eq_getElem h,List.getD_eq_getElem?_getD,List.getElem?_eq_getElem h]
 cases hb:on.testBit l[j].toNat <;> simp[hb]
def aY (on:Nat)(l:List Int):List Int:=l.filter (fun a=>on.testBit a.toNat)
theorem yi {on:Nat}{l:List Int}{k:Nat}(hk:k<=l.length)(h:∀j,j<k->cr on (l.getD j 0)=false):cm on l k=l.take k:=by
 unfold cm
 rw[List.filter_eq_self]
 intro a ha
 obtain⟨j,hj,e⟩:=List.mem_iff_getElem.1 ha
 rw[List.length_take] at hj
 have:=h j omg
 rw[List.getD_eq_getElem?_getD,List.getElem?_eq_getElem omg] at this
 unfold cr at this
 rw[List.getElem_take] at e
 rw[<-e]
 simpa using this
theorem yj (R:Res)(l:List Int)(on:Nat)(hon:on<2^24)(hl:0<l.length/\l.length<1000000)(ha:∀a,a∈l->0<=a/\a<24)(g:R.σ):Does Tryd.prog R 72 [.ow true 0 l.length 1,.fn 73 0 (nth []) 1 (nth [.ref 1 0])] [.cells false (l.length*1) (ab l),.cells false 1 (fun _=>.int .u64 on)] g (.ret (.sl 0 0 (aY on l).length l.length false 1)) [.cells false ((aY on l).length*1) (ab (aY on l)),.cells false 1 (fun _=>.int .u64 on)] g:=by
 by_cases h0:0<=aO (cr on) l 0
 ·obtain⟨k,k1,k2,k3,k4⟩:=iV (cr on) 0 l 0 h0
  rw[Nat.zero_add] at k2
  have hkp:=yi omg k4
  refine spW (nt:=42) (rs:=[.tmp 4]) (k0:=2) ?_
  have hk1:cm on l (k+1)=l.take k:=by
   rw[rV k1,hkp,if_neg (by unfold cr at k3;simpa using k3)]
  have hkl:(cm on l (k+1)).length=k:=by rw[hk1,List.length_take];omega
  refine vcR [] (lkL [(0,[0,1]),(1,[0,1,5]),(2,[0,1,5,12]),(3,[4]),(4,[0,1,5,6])]) (lkL [(1,[(2,ROrc.kcall (int i64 (aO (cr on) l 0)))])]) (fun Q=>(fun (u1:List AObj)=>(fun (u2:Int)=>(fun (u3:AV)=>(true=true/\Does Tryd.prog R 103 [u3,fn 73 0 (nth []) 1 (nth [ref 1 0])] u1 g (ret (int i64 u2)) u1 g)/\((u2 == -1)=true->Q AEx.ret (St.mk [(4,u3)] u1 g))/\((u2 == -1)=false->(-9223372036854775808<=u2+1/\u2+1<=9223372036854775807)/\WpC Tryd.prog R 42 2 72 [1,1,1,0,1,0] Q [Kont.blk 0,Kont.seq [1,1,1,1]] (St.mk [(0,u3),(1,fn 73 0 (nth []) 1 (nth [ref 1 0])),(5,int i64 u2),(6,int i64 (u2+1))] u1 g))) (ow true 0 (List.length l) 1)) (aO (cr on) l 0)) ([cells false (List.length l*1) fun a=>ab l a,cells false 1 fun x=>int u64 (↑on:Int)])) ⟨⟨rfl,(rU _ _ _ omg omg omg _)⟩,fun c1=>have c1:aO (cr on) l 0 = -1:=(beq_iff_eq.mp c1);?_,fun c1=>have c1:¬aO (cr on) l 0 = -1:=(beq_eq_false_iff_ne.mp c1);⟨omg,?_⟩⟩
  ·exact absurd c1 omg
  ·rw[k2]
   refine(aZ krf (fun (x:Nat)=>⟨[(0,ow true 0 (l.length) 1),(1,fn 73 0 (nth []) 1 (nth [ref 1 0])),(5,.int .i64 (cm on l x).length),(6,.int .i64 x)],[.cells false (l.length*1) (ct on l x),.cells false 1 (fun _=>.int .u64 on)],g⟩) (fun (x:Nat)=>(x<=l.length/\(cm on l x).length<x)) (fun (x:Nat)=>(l.length-x)) (k+1) (toL (h1:=⟨Av _,Av _,(Aw ?_),(Aw krf),trivial⟩) (h2:=⟨?_,Ax,trivial⟩)) ?_ (fun x hi=>?_))
   ·show AV.int .i64 _=AV.int .i64 _
    rw[hkl]
   ·refine⟨rfl,Nat.le_refl _,fun c hc=>?_⟩
    show Le (ab l c) (ct on l (k+1) c)
    unfold ct
    rw[hkl]
    split
    ·refine Aw ?_
     show AV.int .i64 _=AV.int .i64 _
     rw[hk1,List.getD_eq_getElem?_getD,List.getD_eq_getElem?_getD,List.getElem?_take,if_pos omg]
    ·split
     ·exact Av _
     ·exact Le.any _
   ·exact⟨omg,omg⟩
   ·obtain⟨h1,h2⟩:=hi
    rcases Nat.lt_or_ge x l.length with hlt|hge
    ·have hat:=ha _ (bZ l 0 hlt)
     have hks:=rV (on:=on) hlt
     have hdx:ct on l x x=.int .i64 (l.getD x 0):=by
      unfold ct
      rw[if_neg omg,if_pos (Nat.le_refl _)]
     refine vcR [] (lkL [(5,[0,1,5,6,19]),(7,[0,1,5,6,7]),(8,[0,1,5,6,7,29]),(9,[0,1,5,6]),(10,[0,1,5,6]),(6,[0,1,5,6])]) (lkL [(7,[(3,ROrc.kop (int i64 (List.getD l x 0)))]),(8,[(2,ROrc.kcall (AV.bool !Nat.testBit on (Int.toNat (List.getD l x 0))))])]) (fun Q=>(fun (u1:List AObj)=>(fun (u2:Int)=>(fun (u3:Int)=>(fun (u4:Int)=>(fun (u5:List (Nat × AV))=>(fun (u6:Bool)=>(fun (u7:AV)=>(decide (u4<u3)=true->(0<=u4/\u4<u3)/\OpOk Tryd.prog R (Oper.mk (some 25) (Op.load 3 (Operand.tmp 24)) 3 "slices.go:248" #[Edge.mk 2 Ground.data] none) (evO [Row.mk (some 24) none (ref 0 x) false (some []) [],Row.mk (some 23) none (int i64 u4) false (some []) [],Row.mk (some 22) none u7 false (some []) []] u5 []) u1 g (ab l x) u1 g/\(true=true/\Does Tryd.prog R 73 [ab l x,ref 1 0] u1 g (ret (AV.bool u6)) u1 g)/\((!u6)=true->(0<=u2/\u2<u3)/\List.length (cm on l x)+1<=List.length l*1/\(-9223372036854775808<=u2+1/\u2+1<=9223372036854775807)/\(-9223372036854775808<=u4+1/\u4+1<=9223372036854775807)/\Q AEx.normal (St.mk [(0,u7),(1,fn 73 0 (nth []) 1 (nth [ref 1 0])),(5,int i64 (u2+1)),(6,int i64 (u4+1))] [cells false (List.length l*1) (ah (ct on l x) (List.length (cm on l x)) 1 fun x_3=>ab l x),cells false 1 fun x=>int u64 (↑on:Int)] g))/\((!u6)=false->(-9223372036854775808<=u4+1/\u4+1<=9223372036854775807)/\Q AEx.normal (St.mk [(0,u7),(1,fn 73 0 (nth []) 1 (nth [ref 1 0])),(5,int i64 u2),(6,int i64 (u4+1))] u1 g)))/\(decide (u4<u3)=false->Q (AEx.exit 0) (St.mk u5 u1 g))) (ow true 0 (List.length l) 1)) (!Nat.testBit on (Int.toNat (List.getD l x 0)))) ([(0,ow true 0 (List.length l) 1),(1,fn 73 0 (nth []) 1 (nth [ref 1 0])),(5,int i64 u2),(6,int i64 u4),(19,AV.bool (decide (u4<u3)))])) ((↑x:Int))) ((↑(List.length l):Int))) ((↑(List.length (cm on l x)):Int))) ([cells false (List.length l*1) (ct on l x),cells false 1 fun x=>int u64 (↑on:Int)])) ⟨fun c1=>have c1:(↑x:Int)<(↑(List.length l):Int):=(of_decide_eq_true c1);⟨omg,?_,⟨rfl,(doS [1] 2 (fun R g=>rT R (on) (List.getD l x 0) omg omg g))⟩,fun c2=>have c2:Nat.testBit on (Int.toNat (List.getD l x 0))=true:=((Bool.not_eq_false' _).mp ((Bool.not_eq_true' _).mp c2));⟨omg,omg,omg,omg,?_⟩,fun c2=>have c2:Nat.testBit on (Int.toNat (List.getD l x 0))=false:=((Bool.not_eq_true' _).mp ((Bool.not_eq_false' _).mp c2));⟨omg,?_⟩⟩,fun c1=>have c1:¬(↑x:Int)<(↑(List.length l):Int):=(of_decide_eq_false c1);?_⟩
     ·exact fQ rfl rfl krf rfl (by show _+1<=_;omega) hdx
     ·rw[if_pos c2] at hks
      refine(aL (x+1) (toL (h1:=⟨Av _,Av _,(Aw ?_),(Aw krf),trivial⟩) (h2:=⟨?_,Ax,trivial⟩)) ?_ ?_)
      ·show AV.int .i64 _=AV.int .i64 _
       rw[hks,List.length_append]
       rfl
      ·refine⟨rfl,Nat.le_refl _,fun c hc=>?_⟩
       rw[cA]
       unfold ct
       rw[hks,List.length_append,List.length_singleton]
       rcases Nat.lt_trichotomy c (cm on l x).length with h|h|h
       ·rw[if_neg omg,if_pos h,if_pos omg,List.getD_eq_getElem?_getD,List.getD_eq_getElem?_getD,List.getElem?_append_left h]
        exact Av _
       ·subst h
        rw[if_pos omg,if_pos omg,List.getD_eq_getElem?_getD,List.getElem?_append_right (Nat.le_refl _),Nat.sub_self]
        exact Av _
       ·rw[if_neg (show ¬((cm on l x).length<=c/\c<(cm on l x).length+1) by omega),if_neg (show ¬c<(cm on l x).length by omega),if_neg (show ¬c<(cm on l x).length+1 by omega)]
        by_cases h3:x+1<=c
        ·rw[if_pos (show x<=c by omega),if_pos h3];exact Av _
        ·rw[if_neg h3];exact Le.any _
      ·refine⟨omg,?_⟩
       rw[hks,List.length_append,List.length_singleton]
       omega
      ·omega
     ·rw[if_neg (by rw[c2];decide)] at hks
      refine(aL (x+1) (toL (h1:=⟨Av _,Av _,(Aw ?_),(Aw krf),trivial⟩) (h2:=⟨?_,Ax,trivial⟩)) ?_ ?_)
      ·show AV.int .i64 _=AV.int .i64 _
       rw[hks]
      ·refine⟨rfl,Nat.le_refl _,fun c hc=>?_⟩
       unfold ct
       rw[hks]
       by_cases h:c<(cm on l x).length
       ·rw[if_pos h,if_pos h];exact Av _
       ·rw[if_neg h,if_neg h]
        by_cases h3:x+1<=c
        ·rw[if_pos omg,if_pos h3];exact Av _
        ·rw[if_neg h3];exact Le.any _
      ·refine⟨omg,?_⟩
       rw[hks]
       omega
      ·omega
     ·exfalso;omega
    ·have hxe:x=l.length:=by omega
     subst hxe
     have hkk:cm on l l.length=aY on l:=by unfold cm aY;rw[List.take_length]
     rw[hkk] at h2 ⊢
     have hb:decide ((l.length:Int)<(l.length:Int))=false:=decide_eq_false omg
     refine vcR [[1,1,1,0,1,0,0,0,1,0]] (lkL [(5,[0,1,5,6,19])]) (fun _=>[]) (fun Q=>(fun (u1:Int)=>(fun (u2:St R.σ)=>(decide (u1<u1)=true->WpC Tryd.prog R 42 2 72 [1,1,1,0,1,0,0,0,1,0] Q [Kont.seq [1,1,1,0,1,0,0,1]] u2)/\(decide (u1<u1)=false->Q (AEx.exit 0) u2)) (St.mk [(0,ow true 0 (List.length l) 1),(1,fn 73 0 (nth []) 1 (nth [ref 1 0])),(5,int i64 (↑(List.length (aY on l)):Int)),(6,int i64 u1),(19,AV.bool (decide (u1<u1)))] [cells false (List.length l*1) (ct on l (List.length l)),cells false 1 fun x=>int u64 (↑on:Int)] g)) ((↑(List.length l):Int))) ⟨fun hcc=>(nomatch (hb.symm.trans hcc)),fun _=>?_⟩
     refine⟨_,AH _,vcR [] (lkL [(11,[0,5]),(12,[4])]) (lkL [(11,[(3,ROrc.own any [cells false (List.length (aY on l)*1) (ct on l (List.length l)),cells false 1 fun (x:Nat)=>int u64 (↑on:Int)] g)])]) (fun Q=>(fun (u1:Nat)=>(fun (u2:Int)=>(fun (u3:AObj)=>(fun (u4:Int)=>List.length l<=List.length l/\(0<=u4/\u4<=u2)/\u1<List.length l/\OpOk Tryd.prog R (Oper.mk none (Op.call (Call.mk (Callee.builtin Builtin.clear) #[Operand.tmp 38] #[53])) 0 "slices.go:253" #[Edge.mk 2 Ground.data] none) (evO [Row.mk (some 38) none (sl 0 (u1*1) (List.length l-u1) (List.length l-u1) false 1) false (some []) [],Row.mk (some 37) none (int i64 u4) false (some []) [],Row.mk (some 36) none (ow true 0 (List.length l) 1) false (some []) []] [(0,ow true 0 (List.length l) 1),(1,fn 73 0 (nth []) 1 (nth [ref 1 0])),(5,int i64 u4),(6,int i64 u2),(19,AV.bool (decide (u2<u2)))] []) [cells false (List.length l*1) (ct on l (List.length l)),u3] g any [cells false (u1*1) (ct on l (List.length l)),u3] g/\(0<=u4/\u4<=u2)/\0<List.length l/\Q AEx.ret (St.mk [(4,sl 0 0 (u1-0) (List.length l-0) false 1)] [cells false (u1*1) (ct on l (List.length l)),u3] g)) ((↑u1:Int))) (cells false 1 fun x=>int u64 (↑on:Int))) ((↑(List.length l):Int))) (List.length (aY on l))) ⟨omg,omg,omg,?_,omg,omg,?_⟩⟩
     ·obtain⟨ei,hei⟩:=vF (ty:=aC Tryd.prog) (t:=53) (es:=1) krf
      refine rf (vE (t:=53) (es:=1) (N:=l.length*1) (len:=l.length-(aY on l).length) (get0:=ct on l l.length) rfl rfl rfl rfl rfl rfl hei omg (Nat.le_refl _) dcd omg) rfl
     ·show a9 Tryd.prog R 2 _ _ _ _ .ret _
      refine bY (.sl 0 0 ((aY on l).length-0) (l.length-0) false 1) _ rfl trivial (toL (h2:=⟨⟨rfl,Nat.le_refl _,fun c hc=>Aw ?_⟩,Ay _,trivial⟩))
      show ct on l l.length c=ab (aY on l) c
      unfold ct
      rw[hkk,if_pos omg]
      rfl
 ·have hm:=rr (cr on) l 0 h0
  have hk:aY on l=l:=by
   unfold aY
   rw[List.filter_eq_self]
   intro a ha
   have:=hm.2 a ha
   unfold cr at this
   simpa using this
  rw[hk]
  refine spW (nt:=42) (rs:=[.tmp 4]) (k0:=2) ?_
  refine vcR [] (lkL [(0,[0,1]),(1,[0,1,5]),(2,[0,1,5,12]),(3,[4]),(4,[0,1,5,6])]) (lkL [(1,[(2,ROrc.kcall (int i64 (aO (cr on) l 0)))])]) (fun Q=>(fun (u1:List AObj)=>(fun (u2:Int)=>(fun (u3:AV)=>(true=true/\Does Tryd.prog R 103 [u3,fn 73 0 (nth []) 1 (nth [ref 1 0])] u1 g (ret (int i64 u2)) u1 g)/\((u2 == -1)=true->Q AEx.ret (St.mk [(4,u3)] u1 g))/\((u2 == -1)=false->(-9223372036854775808<=u2+1/\u2+1<=9223372036854775807)/\WpC Tryd.prog R 42 2 72 [1,1,1,0,1,0] Q [Kont.blk 0,Kont.seq [1,1,1,1]] (St.mk [(0,u3),(1,fn 73 0 (nth []) 1 (nth [ref 1 0])),(5,int i64 u2),(6,int i64 (u2+1))] u1 g))) (ow true 0 (List.length l) 1)) (aO (cr on) l 0)) ([cells false (List.length l*1) fun a=>ab l a,cells false 1 fun x=>int u64 (↑on:Int)])) ⟨⟨rfl,(rU _ _ _ omg omg omg _)⟩,fun c1=>have c1:aO (cr on) l 0 = -1:=(beq_iff_eq.mp c1);?_,fun c1=>have c1:¬aO (cr on) l 0 = -1:=(beq_eq_false_iff_ne.mp c1);⟨omg,?_⟩⟩
  ·refine bY (.ow true 0 l.length 1) _ rfl trivial (toL (h1:=⟨Le.ow_sl omg,trivial⟩) (h2:=⟨Ay _,Ay _,trivial⟩))
  ·exact absurd hm.1 c1
def aM (on:Nat)(l:List Rule):List Rule:=l.filter (fun r=>on.testBit r.head.toNat)
def bh (on:Nat):List Rule->Nat->List Int
 |[],_=>[]
 |r::l,i=>if on.testBit r.head.toNat then(i:Int)::bh on l (i+1) else bh on l (i+1)
theorem rW (on:Nat):∀(l:List Rule) (i:Nat),(bh on l i).length=(aM on l).length
 |[],_=>rfl
 |r::l,i=>by
  unfold bh aM
  rw[List.filter_cons]
  have ih:=rW on l (i+1)
  unfold aM at ih
  split <;> simp[ih]
theorem rX (on:Nat):∀(l l':List Rule) (i:Nat),bh on (l++l') i=bh on l i++bh on l' (i+l.length)
 |[],l',i=>rfl
 |r::l,l',i=>by
  show(if on.testBit r.head.toNat then(i:Int)::bh on (l++l') (i+1) else bh on (l++l') (i+1))=(if on.testBit r.head.toNat then(i:Int)::bh on l (i+1) else bh on l (i+1))++_
  rw[rX on l l' (i+1),show i+1+l.length=i+(r::l).length by simp;omega]
  split <;> rfl
theorem yk {on:Nat}{l:List Rule}{i:Nat}(h:i<l.length):aM on (l.take (i+1))=if on.testBit (l.getD i default).head.toNat then aM on (l.take i)++[l.getD i default] else aM on (l.take i):=by
 unfold aM
 rw[List.take_add_one,List.filter_append,List.getElem?_eq_getElem h,List.getD_eq_getElem?_getD,List.getElem?_eq_getElem h]
 cases hb:on.testBit l[i].head.toNat <;> simp[hb]
theorem ym {on:Nat}{l:List Rule}{i:Nat}(h:i<l.length):bh on (l.take (i+1)) 0=if on.testBit (l.getD i default).head.toNat then bh on (l.take i) 0++[(i:Int)] else bh on (l.take i) 0:=by
 rw[List.take_add_one,List.getElem?_eq_getElem h,List.getD_eq_getElem?_getD,List.getElem?_eq_getElem h,Option.toList_some,rX,List.length_take,Nat.min_eq_left omg,Nat.zero_add]
 show _++(if on.testBit l[i].head.toNat then(i:Int)::[] else[])=_
 rw[Option.getD_some]
 split <;> simp
theorem lP {q:List Int}{s:Int}{c:Nat}{z:Nat->AV}(hc:c<(q.length+1)*1):ab (q++[s]) c=aS 1 q.length (fun i j=>ab q (i*1+j)) (fun i j=>ah z 0 1 (fun _=>.int .i64 s) (0+i*1+j)) c:=by
 unfold aS
 by_cases h:c<q.length*1
 ·rw[if_pos h]
  show _=ab q (c/1*1+c%1)
  rw[show c/1*1+c%1=c by omega]
  unfold ab
  rw[List.getD_eq_getElem?_getD,List.getElem?_append_left omg,<-List.getD_eq_getElem?_getD]
 ·rw[if_neg h]
  show _=ah z 0 1 _ (0+(c-q.length*1)/1*1+(c-q.length*1)%1)
  rw[cA,if_pos omg,show c=q.length by omega]
  unfold ab
  rw[List.getD_eq_getElem?_getD,List.getElem?_append_right (Nat.le_refl _),Nat.sub_self]
  rfl
theorem nv {k:Nat}(l:List Rule)(j:Nat):Below k (bc l j):=ln _ _
theorem qS {f:Nat->Nat}(h:True){l:List Rule}{j:Nat}:aN f (bc l j)=bc l j:=ls _ _
theorem nat1_rng:∀(k n d j:Nat),j<k->ay (rng k n) d j=n+j
 |0,_,_,_,h=>absurd h (Nat.not_lt_zero _)
 |k+1,n,d,0,_=>rfl
 |k+1,n,d,j+1,h=>by
  show ay (rng k (n+1)) d j=_
  rw[nat1_rng k (n+1) d j omg]
  omega
theorem lQ {n:Nat}{c:Nat->AV}(h:∀j,j<n->Below 0 (c j))(f:Nat->Nat):LeO (.cells false n c) (bU f (.cells false n c)):=⟨rfl,Nat.le_refl _,fun j hj=>bu (h j hj)⟩
def cg (b:Nat)(l:List Stp):Nat->AV:=fun c=>bif Nat.beq (c%2) 0 then .int .i64 (l.getD (c/2) default).rule else .ow true (b+c/2) (l.getD (c/2) default).atoms.length 1
theorem ov {f:Nat->Nat}{b b':Nat}{l:List Stp}{c:Nat}(h:f (b+c/2)=b'+c/2):aN f (cg b l c)=cg b' l c:=by
 unfold cg
 cases Nat.beq (c%2) 0 with
 |true=>rfl
 |false=>
  show AV.ow true (f (b+c/2)) _ 1=_
  rw[h]
  rfl
theorem yn (R:Res)[hT:Tab LT R](p:Prg)(n0 n1 n2 n3:Nat)(c0 c1 c2 c3:Nat->AV)(b0:∀j,j<n0->Below 0 (c0 j))(b1:∀j,j<n1->Below 0 (c1 j))(b2:∀j,j<n2->Below 0 (c2 j))(b3:∀j,j<n3->Below 0 (c3 j))(hl:p.rules.l.length<1000000)(hr:∀r,r∈p.rules.l->aH r)(hp:b9 p)(hh:dv p)(g:R.σ):Does Tryd.prog R 60 [au p] [.cells false n0 c0,.cells false n1 c1,.cells false n2 c2,.cells false n3 c3] g (.ret (.tup 2 (nth [.ow true 5 (ak p).1.length 2,.ref 4 0])))
  (.cells false n0 c0::.cells false n1 c1::.cells false n2 c2::.cells false n3 c3::.cells false 27 (aI (ak p).2)::.cells false ((ak p).1.length*2) (cg 6 (ak p).1)::bE (ac (ak p).1) []) g:=by
 have hlen:=n7 hp hr hh
 have h1:Does Tryd.prog R 60 [au p] [.cells false n0 c0,.cells false n1 c1,.cells false n2 c2,.cells false n3 c3] g (.ret (.tup 2 (nth [.ow true 6 (ak p).1.length 2,.ref 4 0])))
   (.cells false n0 c0::.cells false n1 c1::.cells false n2 c2::.cells false n3 c3::.cells false 27 (ai p (ak p).2 (.mp 5))::.map (esF p.rules.l)::.cells false ((ak p).1.length*2) (cg 7 (ak p).1)::bE (ac (ak p).1) []) g:=
  fj hT [] 4 (fun R _ g=>rE R p hl hr hp hh g) rfl rfl rfl trivial trivial ⟨bu (by exact⟨⟨trivial,trivial⟩,trivial⟩),trivial⟩ (Az (fun j hj=>match j,hj with|0,_=>Av _|1,_=>Av _)) ⟨Ay _,Ay _,Ay _,Ay _,AF (fun j hj=>cL (by rfl)),rfl,AF (fun c hc=>ov (b:=3) (by
   show ay ([]++rng 27 4) (4+27) (3+c/2)=7+c/2
   rw[List.nil_append,nat1_rng 27 4 31 (3+c/2) omg]
   omega)),Ay _,Ay _,Ay _,Ay _,Ay _,Ay _,Ay _,Ay _,Ay _,Ay _,Ay _,Ay _,Ay _,Ay _,Ay _,Ay _,Ay _,Ay _,Ay _,Ay _,Ay _,Ay _,Ay _,Ay _,trivial⟩
 refine eK h1 (toS [0,1,2,3,4,6,7,8,9,10,11,12,13,14,15,16,17,18,19,20,21,22,23,24,25,26,27,28,29,30] 31 (hob:=?_))
 refine⟨lQ b0 _,lQ b1 _,lQ b2 _,lQ b3 _,⟨rfl,Nat.le_refl _,fun j hj=>by
  show Le (ai p _ (.mp 5) j) (aN _ (aI _ j))
  rw[cW trivial]
  exact rF⟩,AF (fun c hc=>?_),Ay _,Ay _,Ay _,Ay _,Ay _,Ay _,Ay _,Ay _,Ay _,Ay _,Ay _,Ay _,Ay _,Ay _,Ay _,Ay _,Ay _,Ay _,Ay _,Ay _,Ay _,Ay _,Ay _,Ay _,trivial⟩
 refine(ov (b:=6) (b':=7) (c:=c) ?_).symm
 have h:(List.range 24).all (fun i=>ay [0,1,2,3,4,6,7,8,9,10,11,12,13,14,15,16,17,18,19,20,21,22,23,24,25,26,27,28,29,30] 31 (6+i)==7+i)=true:=by decide +kernel
 simpa using (List.all_eq_true.1 h) (c/2) (List.mem_range.2 omg)
def aE (p:Prg)(on:Nat):Prg:=⟨p.atoms,aM on p.rules.l,.auto⟩
theorem yp {p:Prg}{on:Nat}{hp:List AObj}{k m o:Nat}(ho:af hp o=.cells false ((aM on p.rules.l).length*2) (bc (aM on p.rules.l)))(hk:k<=o):aq hp k m (.ow true o (aM on p.rules.l).length 2) (ad (aE p on).rules):=
 (aq.ow ho hk (Nat.le_refl _) dcd (fun j _=>AC (nv _ _))).le (AB rfl (fun i j hi hj=>by
  show bc _ (i*2+j)=bB _ j
  unfold bc
  rw[show(i*2+j)/2=i by omega,show(i*2+j)%2=j by omega]
  rfl))
def j3 (p:Prg)(s:Stp):Prop:=(0<=s.rule->s.rule<p.rules.l.length)/\0<s.atoms.length/\s.atoms.length<=24/\∀a,a∈s.atoms->0<=a/\a<p.atoms
theorem yq {p:Prg}{v:Nat->Int}(hp:b9 p)(hr:∀r,r∈p.rules.l->aH r)(hh:dv p)(hb:bb p v=true):j3 p (am p v):=by
 obtain⟨h1,h2⟩:=n6 (v:=v) hp hr hh
 by_cases h:0<=bf p v
 ·obtain⟨k,k1,k2,_,_⟩:=iV (dU v) default p.rules.l 0 h
  have hn:am p v=⟨bf p v,[(p.rules.l.getD (bf p v).toNat default).head]⟩:=if_pos h
  have hf:bf p v=k:=by unfold bf;rw[k2];simp
  refine⟨fun _=>?_,?_,h2,h1⟩
  ·rw[hn];show bf p v<_;omega
  ·rw[hn];exact Nat.zero_lt_one
 ·obtain⟨k0,k1,_,_,_⟩:=lJ hp h hb
  refine⟨fun h=>?_,?_,h2,h1⟩
  ·rw[k0] at h
   exact absurd h (by show ¬(0:Int) <= -1;omega)
  ·unfold g5 at k1
   rw[Bool.and_eq_true] at k1
   exact of_decide_eq_true k1.1
theorem rY {p:Prg}(hp:b9 p)(hr:∀r,r∈p.rules.l->aH r)(hh:dv p):∀(n:Nat) (v:Nat->Int) (l:List Stp),(∀s,s∈l->j3 p s)->∀s,s∈(dw p n v l).1->j3 p s
 |0,_,_,h=>h
 |n+1,v,l,h=>by
  show ∀s,s∈(if bb p v then dw p n (bK v (am p v)) (l++[am p v]) else(l,v)).1->j3 p s
  by_cases hb:bb p v=true
  ·rw[if_pos hb]
   refine rY hp hr hh n _ _ (fun s hs=>?_)
   rcases List.mem_append.1 hs with hs|hs
   ·exact h s hs
   ·have:s=am p v:=by simpa using hs
    rw[this]
    exact yq hp hr hh hb
  ·rw[if_neg hb]
   exact h
def hU (nums:List Int)(s:Stp):Int:=if 0<=s.rule then nums.getD s.rule.toNat 0 else s.rule
def ae (on:Nat)(l:List Stp)(i j:Nat):AObj:=.cells false ((if j<i then aY on (l.getD j default).atoms else(l.getD j default).atoms).length*1) (ab (if j<i then aY on (l.getD j default).atoms else(l.getD j default).atoms))
def aW (on:Nat)(l:List Stp)(i:Nat):List Nat:=(List.range i).filter (fun k=>decide (0<(aY on (l.getD k default).atoms).length))
def bz (on:Nat)(nums:List Int)(l:List Stp)(q:List Nat):Nat->AV:=fun c=>bif Nat.beq (c%2) 0 then .int .i64 (hU nums (l.getD (q.getD (c/2) 0) default)) else .sl (6+q.getD (c/2) 0) 0 (aY on (l.getD (q.getD (c/2) 0) default).atoms).length (l.getD (q.getD (c/2) 0) default).atoms.length false 1
def hZ (k:Nat):List Nat:=[0,1,2,3,4,5,6,7,8,9,10,11,12,13,14,15,16,17,18,19,20,21,22,23,24,25,26,27,28,29,k]
theorem rZ {k n j:Nat}(hj:j<30):ay (hZ k) n j=j:=by
 have h:j=0∨j=1∨j=2∨j=3∨j=4∨j=5∨j=6∨j=7∨j=8∨j=9∨j=10∨j=11∨j=12∨j=13∨j=14∨j=15∨j=16∨j=17∨j=18∨j=19∨j=20∨j=21∨j=22∨j=23∨j=24∨j=25∨j=26∨j=27∨j=28∨j=29:=by omega
 rcases h with rfl|rfl|rfl|rfl|rfl|rfl|rfl|rfl|rfl|rfl|rfl|rfl|rfl|rfl|rfl|rfl|rfl|rfl|rfl|rfl|rfl|rfl|rfl|rfl|rfl|rfl|rfl|rfl|rfl|rfl <;> rfl
theorem j4 {f:Nat->AObj}{x0 x1 x2 x3 x4 x5:AObj}{r:List AObj}{a:Nat}(ha:a<24):af (x0::x1::x2::x3::x4::x5::bE f r) (6+a)=f a:=by
 rw[show 6+a=a+6 by omega]
 exact lE ha
theorem r7 {f:Nat->AObj}{x0 x1 x2 x3 x4 x5:AObj}{r:List AObj}{a:Nat}:af (x0::x1::x2::x3::x4::x5::bE f r) (30+a)=af r a:=by
 rw[show 30+a=a+30 by omega]
 rfl
theorem yr {on:Nat}{l:List Stp}{i j:Nat}(h:j≠i):ae on l (i+1) j=ae on l i j:=by
 unfold ae
 by_cases hj:j<i
 ·rw[if_pos hj,if_pos (show j<i+1 by omega)]
 ·rw[if_neg hj,if_neg (show ¬j<i+1 by omega)]
theorem yu {on:Nat}{l:List Stp}{i:Nat}:ae on l i i=.cells false ((l.getD i default).atoms.length*1) (ab (l.getD i default).atoms):=by
 unfold ae
 rw[if_neg (Nat.lt_irrefl i)]
theorem yv {on:Nat}{l:List Stp}{i:Nat}:ae on l (i+1) i=.cells false ((aY on (l.getD i default).atoms).length*1) (ab (aY on (l.getD i default).atoms)):=by
 unfold ae
 rw[if_pos (Nat.lt_succ_self i)]
theorem r8 (R:Res)(on:Nat)(L:List Stp)(i:Nat)(x0 x2 x3 x4 x5 o30 o31:AObj)(hi:i<24)(hon:on<2^24)(hl:0<(L.getD i default).atoms.length/\(L.getD i default).atoms.length<1000000)(ha:∀a,a∈(L.getD i default).atoms->0<=a/\a<24)(g:R.σ) :
  Does Tryd.prog R 72 [.ow true (6+i) (L.getD i default).atoms.length 1,.fn 73 0 (nth []) 1 (nth [.ref 1 0])] (x0::.cells false 1 (fun _=>.int .u64 on)::x2::x3::x4::x5::bE (ae on L i) [o30,o31]) g
   (.ret (.sl (6+i) 0 (aY on (L.getD i default).atoms).length (L.getD i default).atoms.length false 1)) (x0::.cells false 1 (fun _=>.int .u64 on)::x2::x3::x4::x5::bE (ae on L (i+1)) [o30,o31]) g:=by
 have hlt:bI [6+i,1] 32=true:=by
  show(Nat.blt (6+i) 32&&(Nat.blt 1 32&&true))=true
  rw[show Nat.blt (6+i) 32=true by rw[Nat.blt_eq];omega]
  rfl
 have hnd:cP [6+i,1]=true:=by
  show(!(bif Nat.beq (6+i) 1 then true else false)&&(!false&&true))=true
  rw[oa (show 6+i≠1 by omega)]
  rfl
 refine fP [6+i,1] 32 (fun R g=>yj R (L.getD i default).atoms on hon hl ha g) rfl hlt hnd ⟨?_,Ay _,trivial⟩ ⟨omg,omg,trivial⟩ ⟨Av _,Le.fn (fun i hi=>absurd hi (Nat.not_lt_zero _)) (fun i hi=>match i,hi with|0,_=>Av _),trivial⟩ (Av _) ?_
 ·rw[j4 hi,yu]
  exact Ay _
 ·refine nm (by rw[jB];rfl) (fun x hx=>?_) (fun x hx=>?_) ⟨?_,Ay _,trivial⟩
  ·rw[jB]
   show x<32
   rcases List.mem_cons.1 hx with h|h
   ·omega
   ·have:x=1:=by simpa using h
    omega
  ·rw[np _ _ _ hx]
   have hx1:x≠6+i:=fun e=>hx (by rw[e];exact List.mem_cons_self)
   rcases Nat.lt_or_ge x 6 with h|h
   ·match x,h with
    |0,_=>exact Ay _
    |1,_=>exact Ay _
    |2,_=>exact Ay _
    |3,_=>exact Ay _
    |4,_=>exact Ay _
    |5,_=>exact Ay _
   ·rcases Nat.lt_or_ge x 30 with h2|h2
    ·obtain⟨a,rfl⟩:∃a,x=6+a:=⟨x-6,omg⟩
     rw[j4 omg,j4 omg,yr omg]
     exact Ay _
    ·obtain⟨a,rfl⟩:∃a,x=30+a:=⟨x-30,omg⟩
     rw[r7,r7]
     exact Ay _
  ·rw[j4 hi,yv]
   exact Ay _
theorem r9 {L:List Stp}{i:Nat}:Le (.agg 2 (fun j=>cg 6 L (j+i*2))) (.agg 2 (nth [.int .i64 (L.getD i default).rule,.ow true (6+i) (L.getD i default).atoms.length 1])):=by
 refine AA (fun j hj=>Aw ?_)
 unfold cg
 match j,hj with
 |0,_=>
  rw[show(0+i*2)%2=0 by omega,show(0+i*2)/2=i by omega]
  rfl
 |1,_=>
  rw[show(1+i*2)%2=1 by omega,show(1+i*2)/2=i by omega]
  rfl
theorem sa {on:Nat}{nums:List Int}{l:List Stp}{q:List Nat}{i c:Nat}{z:Nat->AV}(hc:c<(q.length+1)*2):bz on nums l (q++[i]) c=aS 2 q.length (fun a j=>bz on nums l q (a*2+j)) (fun a j=>ah z 0 2 (nth [.int .i64 (hU nums (l.getD i default)),.sl (6+i) 0 (aY on (l.getD i default).atoms).length (l.getD i default).atoms.length false 1]) (0+a*2+j)) c:=by
 unfold aS
 by_cases h:c<q.length*2
 ·rw[if_pos h]
  show _=bz on nums l q (c/2*2+c%2)
  rw[show c/2*2+c%2=c by omega]
  unfold bz
  rw[List.getD_eq_getElem?_getD (l:=q++[i]),List.getElem?_append_left omg,<-List.getD_eq_getElem?_getD]
 ·rw[if_neg h]
  show _=ah z 0 2 _ (0+(c-q.length*2)/2*2+(c-q.length*2)%2)
  rw[cA,if_pos omg]
  unfold bz
  rw[show c/2=q.length by omega,List.getD_eq_getElem?_getD (l:=q++[i]),List.getElem?_append_right (Nat.le_refl _),Nat.sub_self]
  have h2:c=q.length*2∨c=q.length*2+1:=by omega
  rcases h2 with rfl|rfl
  ·rw[show q.length*2%2=0 by omega,show 0+(q.length*2-q.length*2)/2*2+(q.length*2-q.length*2)%2-0=0 by omega]
   rfl
  ·rw[show(q.length*2+1)%2=1 by omega,show 0+(q.length*2+1-q.length*2)/2*2+(q.length*2+1-q.length*2)%2-0=1 by omega]
   rfl
theorem lR {on:Nat}{l:List Stp}{i:Nat}:aW on l (i+1)=if 0<(aY on (l.getD i default).atoms).length then aW on l i++[i] else aW on l i:=by
 have e:([i].filter (fun k=>decide (0<(aY on (l.getD k default).atoms).length)))=if 0<(aY on (l.getD i default).atoms).length then[i] else[]:=by
  rw[List.filter_cons,List.filter_nil]
  by_cases h:0<(aY on (l.getD i default).atoms).length
  ·rw[if_pos h,decide_eq_true h];rfl
  ·rw[if_neg h,decide_eq_false h];rfl
 unfold aW
 rw[List.range_succ,List.filter_append,e]
 by_cases h:0<(aY on (l.getD i default).atoms).length
 ·rw[if_pos h,if_pos h]
 ·rw[if_neg h,if_neg h,List.append_nil]
theorem yw {on:Nat}{l:List Stp}{i c:Nat}(hi:0<i):(aW on l i).getD c 0<i:=by
 rcases Nat.lt_or_ge c (aW on l i).length with h|h
 ·have:=bZ (aW on l i) 0 h
  have h2:=(List.mem_filter.1 this).1
  exact List.mem_range.1 h2
 ·rw[List.getD_eq_getElem?_getD,List.getElem?_eq_none h]
  exact hi
theorem yx {f:Nat->Nat}{on:Nat}{nums:List Int}{l:List Stp}{q:List Nat}{c:Nat}(h:f (6+q.getD (c/2) 0)=6+q.getD (c/2) 0):aN f (bz on nums l q c)=bz on nums l q c:=by
 unfold bz
 cases Nat.beq (c%2) 0 with
 |true=>rfl
 |false=>
  show AV.sl (f (6+q.getD (c/2) 0)) 0 _ _ false 1=AV.sl (6+q.getD (c/2) 0) 0 _ _ false 1
  rw[h]
def yy (p:Prg)(on:Nat)(NU:List Int)(V:Nat->Int)(L:List Stp)(i m:Nat):List AObj:=.cells false 2 (nth [.int .i64 p.atoms,ad p.rules])::.cells false 1 (fun _=>.int .u64 on)::.cells false 2 (nth [.int .i64 p.atoms,ad (aE p on).rules])::.cells false ((aM on p.rules.l).length*1) (ab NU)::.cells false 27 (aI V)::.cells false (L.length*2) (cg 6 L)::bE (ae on L i) [.cells false (m*2) (bz on NU L (aW on L i))]
theorem lS {p:Prg}{on:Nat}{NU:List Int}{V:Nat->Int}{L:List Stp}{i m k n:Nat}{r:List AObj}(hL:L.length<=24)(hi:i<24)(hm:m=(aW on L (i+1)).length)(hk:af (.cells false 2 (nth [.int .i64 p.atoms,ad p.rules])::.cells false 1 (fun _=>.int .u64 on)::.cells false 2 (nth [.int .i64 p.atoms,ad (aE p on).rules])::.cells false ((aM on p.rules.l).length*1) (ab NU)::.cells false 27 (aI V)::.cells false (L.length*2) (cg 6 L)::bE (ae on L (i+1)) r) k=.cells false (m*2) (bz on NU L (aW on L (i+1)))) :
  dg (ay (hZ k) n) (.cells false 2 (nth [.int .i64 p.atoms,ad p.rules])::.cells false 1 (fun _=>.int .u64 on)::.cells false 2 (nth [.int .i64 p.atoms,ad (aE p on).rules])::.cells false ((aM on p.rules.l).length*1) (ab NU)::.cells false 27 (aI V)::.cells false (L.length*2) (cg 6 L)::bE (ae on L (i+1)) r) (hZ k) (yy p on NU V L (i+1) m):=by
 refine⟨iO,Ay _,iO,Ay _,AF (fun j hj=>(cW trivial).symm),AF (fun c hc=>(ov (b:=6) (b':=6) (c:=c) (rZ omg)).symm),Ay _,Ay _,Ay _,Ay _,Ay _,Ay _,Ay _,Ay _,Ay _,Ay _,Ay _,Ay _,Ay _,Ay _,Ay _,Ay _,Ay _,Ay _,Ay _,Ay _,Ay _,Ay _,Ay _,Ay _,?_,trivial⟩
 rw[hk]
 refine AF (fun c hc=>(yx (rZ ?_)).symm)
 have:=yw (on:=on) (l:=L) (i:=i+1) (c:=c/2) omg
 omega
def eh (on:Nat)(nums:List Int)(l:List Stp):KL Step:=⟨(aW on l l.length).map (fun k=>⟨hU nums (l.getD k default),aY on (l.getD k default).atoms,.opn⟩),.auto⟩
theorem yz {hp:List AObj}{on:Nat}{NU:List Int}{L:List Stp}{m:Nat}(hm:m=(aW on L L.length).length)(hL:L.length<=24)(h30:af hp 30=.cells false (m*2) (bz on NU L (aW on L L.length)))(hin:∀k,k<L.length->af hp (6+k)=ae on L L.length k):aq hp 0 0 (.ow true 30 m 2) (aQ (eh on NU L)):=by
 subst hm
 refine aq.le (aq.ow h30 (Nat.zero_le _) (Nat.le_refl _) dcd (get:=fun c=>bif Nat.beq (c%2) 0 then .int .i64 (hU NU (L.getD ((aW on L L.length).getD (c/2) 0) default)) else aj ⟨aY on (L.getD ((aW on L L.length).getD (c/2) 0) default).atoms,.opn⟩) (fun c hc=>?_)) ?_
 ·unfold bz
  cases Nat.beq (c%2) 0 with
  |true=>exact AC trivial
  |false=>
   have hc2:c/2<(aW on L L.length).length:=by omega
   obtain⟨k,hk⟩:∃k,(aW on L L.length).getD (c/2) 0=k:=⟨_,rfl⟩
   have hmem:=bZ (aW on L L.length) 0 hc2
   rw[hk] at hmem
   have hk2:=List.mem_filter.1 hmem
   have hkl:k<L.length:=List.mem_range.1 hk2.1
   have hpos:0<(aY on (L.getD k default).atoms).length:=of_decide_eq_true hk2.2
   have hle:(aY on (L.getD k default).atoms).length<=(L.getD k default).atoms.length:=List.length_filter_le _ _
   rw[hk]
   have h6:=hin k hkl
   unfold ae at h6
   rw[if_pos hkl] at h6
   exact(aq.sl h6 (Nat.zero_le _) omg hle dcd (fun j _=>AC (dG _ _))).le (AB rfl (fun i j hi hj=>by
    show ab _ (0+i*1+j)=AV.int .i64 _
    rw[show 0+i*1+j=i by omega]
    rfl))
 ·have hl2:(eh on NU L).l.length=(aW on L L.length).length:=by unfold eh;rw[List.length_map]
  refine AB hl2.symm (fun i j hi hj=>?_)
  have hg:(eh on NU L).l.getD i default=⟨hU NU (L.getD ((aW on L L.length).getD i 0) default),aY on (L.getD ((aW on L L.length).getD i 0) default).atoms,.opn⟩:=by
   unfold eh
   rw[List.getD_eq_getElem?_getD,List.getElem?_map,List.getElem?_eq_getElem hi,List.getD_eq_getElem?_getD (l:=aW on L L.length),List.getElem?_eq_getElem hi]
   rfl
  show _=dR _ j
  rw[hg]
  show(bif Nat.beq ((i*2+j)%2) 0 then _ else _)=_
  rw[show(i*2+j)%2=j by omega,show(i*2+j)/2=i by omega]
  match j,hj with
  |0,_=>rfl
  |1,_=>rfl
theorem yA (R:Res)[Tab LT R](p:Prg)(goal:Int)(hb:aG p=true)(hg:0<=goal/\goal<p.atoms)(g:R.σ):Does Tryd.prog R 25 [au p,.int .i64 goal] [] g (.ret (.tup 3 (nth [.int .i64 ((ak (aE p (hgP p goal.toNat))).2 goal.toNat),aQ (eh (hgP p goal.toNat) (bh (hgP p goal.toNat) p.rules.l 0) (ak (aE p (hgP p goal.toNat))).1),.int .i64 0]))) [] g:=by
 obtain⟨hl,hr,hp,hh,hx⟩:=eQ hb
 have hs:ec p:=g9 hb
 have hp':1<=p.atoms/\p.atoms<=24:=hp
 have hroom:ax=140737488355328:=rfl
 have hlt:hgP p goal.toNat<2^24:=hH hr omg
 refine spW (nt:=98) (rs:=[.tmp 4,.tmp 5,.tmp 6]) (k0:=0) ?_
 have hc:(bif ((if aG p then(0:Int) else 2) != 0) then true else !decide (0<=goal/\goal<=p.atoms-1))=false:=by
  rw[hb,decide_eq_true omg]
  rfl
 refine vcR [[1,0,1,0]] (lkL [(0,[1,2]),(1,[1,2,27]),(3,[1,2,7]),(4,[1,2,7,8]),(5,[1,2,7,8,9]),(6,[1,7,8,9,35,36,37])]) (lkL [(1,[(1,ROrc.pcall (int i64 (if aG p=true then 0 else 2))),(8,ROrc.pcall (AV.bool (decide (0<=goal/\goal<=p.atoms-1))))]),(3,[(2,ROrc.pcall (int u64 (↑(hgP p (Int.toNat goal)):Int))),(4,ROrc.val (Orc.obj (nth [int u64 (↑(hgP p (Int.toNat goal)):Int)])))]),(4,[(4,ROrc.val (Orc.obj (nth [int i64 p.atoms,fz Fz.nil 0 0 fun (x x_1:Nat)=>any])))])]) (fun Q=>(fun (u1:Bool)=>(fun (u2:AV)=>(fun (u3:AV)=>(fun (u4:Int)=>(fun (u5:AV)=>2<=2/\(∀(hp:List AObj) (g:R.σ),true=true/\Does Tryd.prog R 16 [au p] hp g (ret (int i64 u4)) hp g)/\((!u4 != 0)=true->1<=2)/\((!u4 != 0)=true -> -9223372036854775808<=p.atoms-1/\p.atoms-1<=9223372036854775807)/\((!u4 != 0)=true->∀(hp:List AObj) (g:R.σ),true=true/\Does Tryd.prog R 58 [int i64 goal,int i64 0,int i64 (p.atoms-1)] hp g (ret (AV.bool (decide (0<=goal/\goal<=p.atoms-1)))) hp g)/\(u1=true->WpC Tryd.prog R 98 0 25 [1,0,1,0] Q [Kont.seq [1,1]] (St.mk [(1,int i64 goal),(2,ref 0 0),(27,AV.bool u1)] [cells false 2 (nth [u5,ad p.rules])] g))/\(u1=false->2<=2/\(∀(hp:List AObj) (g:R.σ),true=true/\Does Tryd.prog R 70 [au p,int i64 goal] hp g (ret u3) hp g)/\1<=1/\(∀(c:Nat),c<1->nth [u3] c=ah (fun (a:Nat)=>int u64 0) 0 1 (fun (x:Nat)=>u3) c)/\1<=2/\2<=2/\(∀(c:Nat),c<2->nth [u5,u2] c=ah (nth [int i64 0,u2]) 0 2 (List.brecOn (motive:=fun (x:List AV)=>Nat->AV) [u5,u2] nth._f) c)/\2<=2/\WpC Tryd.prog R 98 0 25 [1,1,1,1,1,0,1,0] Q [Kont.blk 0,Kont.seq [1,1,1,1,1,1]] (St.mk [(1,int i64 goal),(7,ref 1 0),(8,ref 2 0),(9,u2),(35,ad p.rules),(36,int i64 (↑(List.length p.rules.l):Int)),(37,int i64 0)] [cells false 2 (nth [u5,ad p.rules]),cells false 1 (nth [u3]),cells false 2 (nth [u5,u2])] g))) (int i64 p.atoms)) (if aG p=true then 0 else 2)) (int u64 (↑(hgP p (Int.toNat goal)):Int))) (fz Fz.nil 0 0 fun x x_1=>any)) (bif (if aG p=true then 0 else 2) != 0 then true else !decide (0<=goal/\goal<=p.atoms-1))) ⟨omg,(fun _ _=>⟨rfl,(fT _ _ _ _ omg)⟩),omg,omg,(fun hgd=>(fun _ _=>⟨rfl,(dS _ _ _ _ _ _)⟩)),fun hcc=>(nomatch (hc.symm.trans hcc)),fun _=>⟨omg,(fun _ _=>⟨rfl,(rJ _ _ _ omg omg omg _ _)⟩),omg,(fun c hc=>match c,hc with|0,_=>krf ),omg,omg,(fun c hc=>match c,hc with|0,_=>krf|1,_=>krf ),omg,?_⟩⟩
 obtain⟨on,hon⟩:∃on,hgP p goal.toNat=on:=⟨_,rfl⟩
 rw[hon] at hlt ⊢
 refine br (eO (fun _=>.any) 2) ?_
 refine(aZ krf (fun (x:Nat × Nat)=>⟨[(1,int i64 goal),(7,ref 1 0),(8,ref 2 0),(9,.ow true 4 x.2 1),(35,ad p.rules),(36,int i64 (p.rules.l.length:Int)),(37,.int .i64 x.1)],[.cells false 2 (nth [.int .i64 p.atoms,ad p.rules]),.cells false 1 (fun _=>.int .u64 on),.cells false 2 (nth [.int .i64 p.atoms,.ow true 3 x.2 2]),.cells false (x.2*2) (bc (aM on (p.rules.l.take x.1))),.cells false (x.2*1) (ab (bh on (p.rules.l.take x.1) 0))],g⟩) (fun (x:Nat × Nat)=>(x.1<=p.rules.l.length/\x.2=(aM on (p.rules.l.take x.1)).length)) (fun (x:Nat × Nat)=>(p.rules.l.length-x.1)) ((0,0):Nat × Nat) (toL (h1:=⟨Av _,Av _,Av _,Le.nil_ow,Av _,Av _,(Aw krf),trivial⟩) (h2:=⟨Ax,⟨rfl,Nat.le_refl _,fun j hj=>match j,hj with|0,_=>(Av _) ⟩,⟨rfl,Nat.le_refl _,fun j hj=>match j,hj with|0,_=>(Av _)|1,_=>Le.nil_ow ⟩,⟨rfl,Nat.le_refl _,fun j hj=>absurd hj (Nat.not_lt_zero j)⟩,⟨rfl,Nat.le_refl _,fun j hj=>absurd hj (Nat.not_lt_zero j)⟩,trivial⟩)) ?_ (fun x hi=>?_))
 ·exact⟨Nat.zero_le _,rfl⟩
 ·obtain⟨i,m⟩:=x
  obtain⟨hi,hm⟩:=hi
  simp only at hi hm
  have hpl:=rW on (p.rules.l.take i) 0
  have hple:(aM on (p.rules.l.take i)).length<=p.rules.l.length:=Nat.le_trans (List.length_filter_le _ _) (by rw[List.length_take];omega)
  rcases Nat.lt_or_ge i p.rules.l.length with hi'|hi'
  ·have hq:=hr _ (fV hi')
   have hq2:=hq.2
   have hpt:=yk (on:=on) hi'
   have hnt:=ym (on:=on) hi'
   refine vcR [] (lkL [(7,[1,7,8,9,35,36,37,38]),(8,[1,7,8,9,10,11,35,36,37]),(9,[1,7,8,9,10,11,35,36,37,45]),(10,[1,7,8,9,10,35,36,37]),(11,[1,7,8,9,35,36,37]),(12,[1,7,8,9,35,36,37])]) (lkL [(8,[(5,ROrc.val (Orc.obj (nth [int i64 (List.getD p.rules.l i default).head,ao (List.getD p.rules.l i default).body])))]),(9,[(3,ROrc.pcall (AV.bool (Nat.testBit on (Int.toNat (List.getD p.rules.l i default).head))))]),(10,[(4,ROrc.val (Orc.obj (bc (aM on (List.take i p.rules.l)++[List.getD p.rules.l i default])))),(6,ROrc.val (Orc.obj (nth [int i64 p.atoms,ow true 7 (m+1) 2])))]),(11,[(3,ROrc.val (Orc.obj (ab (bh on (List.take i p.rules.l) 0++[(↑i:Int)]))))])]) (fun Q=>(fun (u1:Rule)=>(fun (u2:Int)=>(fun (u3:Int)=>(fun (u4:List Rule)=>(fun (u5:List AV)=>(fun (u6:AObj)=>(fun (u7:AObj)=>(fun (u8:List AV)=>(fun (u9:List AV)=>(fun (u10:AObj)=>(fun (u11:List (Nat × AV))=>(fun (u12:Bool)=>(decide (u3<u2)=true->(0<=u3/\u3<u2)/\2<=2/\2<=2/\(∀(c:Nat),c<2->nth u5 c=ah (nth u8) 0 2 (List.brecOn (motive:=fun (x:List AV)=>Nat->AV) u5 nth._f) c)/\1<=1/\1<=2/\(∀(hp:List AObj) (g:R.σ),true=true/\Does Tryd.prog R 71 [int u64 (↑on:Int),int i64 u1.head] hp g (ret (AV.bool u12)) hp g)/\(u12=true->2<=2/\2<=2/\0<2/\(m+1)*32<=ax/\m+1<=ax/\2<=2/\m*2<=m*2/\(∀(c:Nat),c<(m+1)*2->bc (aM on u4++[u1]) c=aS 2 m (fun (i j:Nat)=>bc (aM on u4) (i*2+j)) (fun (i j:Nat)=>ah (fun (j:Nat)=>nth u8 (j%2)) 0 2 (List.brecOn (motive:=fun (x:List AV)=>Nat->AV) u5 nth._f) (0+i*2+j)) c)/\2<=2/\(∀(c:Nat),c<2->nth [int i64 p.atoms,ow true 7 (m+1) 2] c=ah (nth u9) 1 1 (fun (x:Nat)=>ow true 7 (m+1) 2) c)/\0<1/\(m+1)*8<=ax/\m+1<=ax/\1<=1/\m*1<=m*1/\(∀(c:Nat),c<(m+1)*1->ab (bh on u4 0++[u3]) c=aS 1 m (fun (i j:Nat)=>ab (bh on u4 0) (i*1+j)) (fun (i j:Nat)=>ah (fun (j:Nat)=>int i64 0) 0 1 (fun (x:Nat)=>int i64 u3) (0+i*1+j)) c)/\(-9223372036854775808<=u3+1/\u3+1<=9223372036854775807)/\Q AEx.normal (St.mk ((1,int i64 goal)::(7,ref 1 0)::(8,ref 2 0)::(9,ow true 9 (m+1) 1)::u11) [u6,u7,cells false 2 (nth [int i64 p.atoms,ow true 7 (m+1) 2]),dead,dead,cells false 2 (nth u5),cells false 2 (ah (fun (j:Nat)=>nth u8 (j%2)) 0 2 (List.brecOn (motive:=fun (x:List AV)=>Nat->AV) u5 nth._f)),cells false ((m+1)*2) (bc (aM on u4++[u1])),cells false 1 (ah (fun (j:Nat)=>int i64 0) 0 1 fun x=>int i64 u3),cells false ((m+1)*1) fun a=>ab (bh on u4 0++[u3]) a] g))/\(u12=false->(-9223372036854775808<=u3+1/\u3+1<=9223372036854775807)/\Q AEx.normal (St.mk ((1,int i64 goal)::(7,ref 1 0)::(8,ref 2 0)::(9,ow true 4 m 1)::u11) [u6,u7,cells false 2 (nth u9),cells false (m*2) (bc (aM on u4)),u10,cells false 2 (nth u5)] g)))/\(decide (u3<u2)=false->Q (AEx.exit 0) (St.mk [(1,int i64 goal),(7,ref 1 0),(8,ref 2 0),(9,ow true 4 m 1),(35,ad p.rules),(36,int i64 u2),(37,int i64 u3),(38,AV.bool (decide (u3<u2)))] [u6,u7,cells false 2 (nth u9),cells false (m*2) (bc (aM on u4)),u10] g))) (Nat.testBit on (Int.toNat u1.head))) ([(35,ad p.rules),(36,int i64 u2),(37,int i64 (u3+1))])) (cells false (m*1) fun a=>ab (bh on u4 0) a)) ([int i64 p.atoms,ow true 3 m 2])) ([int i64 0,fz Fz.nil 0 0 fun x x_1=>any])) (cells false 1 fun x=>int u64 (↑on:Int))) (cells false 2 (nth [int i64 p.atoms,ad p.rules]))) ([int i64 u1.head,ao u1.body])) (List.take i p.rules.l)) ((↑i:Int))) ((↑(List.length p.rules.l):Int))) (List.getD p.rules.l i default)) ⟨fun c1=>have c1:(↑i:Int)<(↑(List.length p.rules.l):Int):=(of_decide_eq_true c1);⟨omg,omg,omg,(fun c hc=>match c,hc with|0,_=>krf|1,_=>krf ),omg,omg,(fun _ _=>⟨rfl,(nN _ _ _ omg omg _ _)⟩),fun c2=>⟨omg,omg,omg,omg,omg,omg,omg,?_,omg,(fun c hc=>match c,hc with|0,_=>krf|1,_=>krf ),omg,omg,omg,omg,omg,?_,omg,?_⟩,fun c2=>⟨omg,?_⟩⟩,fun c1=>have c1:¬(↑i:Int)<(↑(List.length p.rules.l):Int):=(of_decide_eq_false c1);?_⟩
   ·intro c hc
    subst hm
    exact(re (r:=p.rules.l.getD i default) (z:=fun j=>nth [.int .i64 0,.fz .nil 0 0 fun _ _=>.any] (j%2)) hc).trans krf
   ·intro c hc
    rw[hm,<-hpl] at hc ⊢
    exact(lP (z:=fun _=>.int .i64 0) hc).trans krf
   ·rw[if_pos c2] at hpt hnt
    refine(aL (i+1,m+1) (toS [0,1,2,7,9] 10 (hob:=⟨⟨rfl,Nat.le_refl _,fun j hj=>match j,hj with|0,_=>(Av _)|1,_=>(Av _) ⟩,⟨rfl,Nat.le_refl _,fun j hj=>match j,hj with|0,_=>(Av _) ⟩,⟨rfl,Nat.le_refl _,fun j hj=>match j,hj with|0,_=>(Av _)|1,_=>(Av _) ⟩,?_,?_,trivial⟩)) ?_ ?_)
    ·show LeO (.cells false ((m+1)*2) (bc (aM on (p.rules.l.take i)++[p.rules.l.getD i default]))) (bU _ (.cells false ((m+1)*2) (bc (aM on (p.rules.l.take (i+1))))))
     rw[hpt,gT]
     exact Ay _
    ·show LeO (.cells false ((m+1)*1) (ab (bh on (p.rules.l.take i) 0++[(i:Int)]))) (.cells false ((m+1)*1) (ab (bh on (p.rules.l.take (i+1)) 0)))
     rw[hnt]
     exact Ay _
    ·refine⟨by show i+1<=_;omega,?_⟩
     show m+1=(aM on (p.rules.l.take (i+1))).length
     rw[hpt,List.length_append,<-hm]
     rfl
    ·show p.rules.l.length-(i+1)<p.rules.l.length-i
     omega
   ·rw[if_neg (by rw[c2];decide)] at hpt hnt
    refine(aL (i+1,m) (toS [0,1,2,3,4] 6 (hob:=⟨⟨rfl,Nat.le_refl _,fun j hj=>match j,hj with|0,_=>(Av _)|1,_=>(Av _) ⟩,⟨rfl,Nat.le_refl _,fun j hj=>match j,hj with|0,_=>(Av _) ⟩,⟨rfl,Nat.le_refl _,fun j hj=>match j,hj with|0,_=>(Av _)|1,_=>(Av _) ⟩,?_,?_,trivial⟩)) ?_ ?_)
    ·show LeO (.cells false (m*2) (bc (aM on (p.rules.l.take i)))) (bU _ (.cells false (m*2) (bc (aM on (p.rules.l.take (i+1))))))
     rw[hpt,gT]
     exact Ay _
    ·show LeO (.cells false (m*1) (ab (bh on (p.rules.l.take i) 0))) (.cells false (m*1) (ab (bh on (p.rules.l.take (i+1)) 0)))
     rw[hnt]
     exact Ay _
    ·refine⟨by show i+1<=_;omega,?_⟩
     show m=(aM on (p.rules.l.take (i+1))).length
     rw[hpt,<-hm]
    ·show p.rules.l.length-(i+1)<p.rules.l.length-i
     omega
   ·exfalso;omega
  ·have hie:i=p.rules.l.length:=by omega
   subst hie
   rw[List.take_length] at hm hpl
   subst hm
   obtain⟨M,hM⟩:∃M,(aM on p.rules.l).length=M:=⟨_,rfl⟩
   refine br (toS (s':=⟨[(1,.int .i64 goal),(7,.ref 1 0),(8,.ref 2 0),(9,.ow true 3 (aM on p.rules.l).length 1),(35,ad p.rules),(36,.int .i64 p.rules.l.length),(37,.int .i64 p.rules.l.length)],[.cells false 2 (nth [.int .i64 p.atoms,ad p.rules]),.cells false 1 (fun _=>.int .u64 on),.cells false 2 (nth [.int .i64 p.atoms,.ow true 4 (aM on p.rules.l).length 2]),.cells false ((aM on p.rules.l).length*1) (ab (bh on p.rules.l 0)),.cells false ((aM on p.rules.l).length*2) (bc (aM on p.rules.l))],g⟩) [0,1,2,4,3] 5 (hob:=⟨iO,Ay _,AF (fun j hj=>match j,hj with|0,_=>rfl|1,_=>rfl),?_,?_,trivial⟩)) ?_
   ·show LeO (.cells false ((aM on p.rules.l).length*1) (ab (bh on (p.rules.l.take p.rules.l.length) 0))) _
    rw[List.take_length]
    exact Ay _
   ·show LeO (.cells false ((aM on p.rules.l).length*2) (bc (aM on (p.rules.l.take p.rules.l.length)))) _
    rw[List.take_length,gT]
    exact Ay _
   refine br (fq 4 [(1,.int .i64 goal),(7,.ref 1 0),(8,.ref 2 0),(9,.ow true 3 (aM on p.rules.l).length 1),(35,ad p.rules),(36,.int .i64 p.rules.l.length),(37,.int .i64 p.rules.l.length)] [.cells false 2 (nth [.int .i64 p.atoms,ad p.rules]),.cells false 1 (fun _=>.int .u64 on),.cells false 2 (nth [.int .i64 p.atoms,ad (aE p on).rules]),.cells false ((aM on p.rules.l).length*1) (ab (bh on p.rules.l 0))] omg (by show 4<=5;omega) rfl (fun i hi=>?_) ⟨AC trivial,AC (show 1<4 by omega),AC (show 2<4 by omega),AC (show 3<4 by omega),AC trivial,AC trivial,AC trivial,trivial⟩) ?_
   ·match i,hi with
    |0,_=>exact⟨rfl,rfl,fun j hj=>match j,hj with|0,_=>AC trivial|1,_=>AC trivial⟩
    |1,_=>exact⟨rfl,rfl,fun j _=>AC trivial⟩
    |2,_=>exact⟨rfl,rfl,fun j hj=>match j,hj with|0,_=>AC trivial|1,_=>yp (o:=4) rfl (Nat.le_refl _)⟩
    |3,_=>exact⟨rfl,rfl,fun j _=>AC trivial⟩
   have hbb:decide ((p.rules.l.length:Int)<(p.rules.l.length:Int))=false:=decide_eq_false omg
   refine vcR [[1,1,1,1,1,0,1,0,0,1,0,0]] (lkL [(7,[1,7,8,9,35,36,37,38])]) (fun _=>[]) (fun Q=>(fun (u1:St R.σ)=>(fun (u2:Int)=>(decide (u2<u2)=true->WpC Tryd.prog R 98 0 25 [1,1,1,1,1,0,1,0,0,1,0,0] Q [Kont.seq [1,1,1,1,1,0,1,0,0,1,1]] u1)/\(decide (u2<u2)=false->Q (AEx.exit 0) u1)) ((↑(List.length p.rules.l):Int))) (St.mk [(1,int i64 goal),(7,ref 1 0),(8,ref 2 0),(9,ow true 3 (List.length (aM on p.rules.l)) 1),(35,ad p.rules),(36,int i64 (↑(List.length p.rules.l):Int)),(37,int i64 (↑(List.length p.rules.l):Int)),(38,AV.bool (decide ((↑(List.length p.rules.l):Int)<(↑(List.length p.rules.l):Int))))] [cells false 2 (nth [int i64 p.atoms,ad p.rules]),cells false 1 fun x=>int u64 (↑on:Int),cells false 2 (nth [int i64 p.atoms,fz Fz.auto 2 (List.length (aE p on).rules.l) fun i=>bB (List.getD (aE p on).rules.l i default)]),cells false (List.length (aM on p.rules.l)*1) fun a=>ab (bh on p.rules.l 0) a] g)) ⟨fun hcc=>(nomatch (hbb.symm.trans hcc)),fun _=>?_⟩
   have hlq:(aE p on).rules.l.length<1000000:=Nat.lt_of_le_of_lt (List.length_filter_le _ _) hl
   have hrq:∀r,r∈(aE p on).rules.l->aH r:=fun r h=>hr r (List.mem_filter.1 h).1
   have hpq:b9 (aE p on):=hp
   have hhq:dv (aE p on):=fun r h=>hh r (List.mem_filter.1 h).1
   have hD:=fun (R:Res) [Tab LT R] (n0 n1 n2 n3:Nat) (c0 c1 c2 c3:Nat->AV) (b0:∀j,j<n0->Below 0 (c0 j)) (b1:∀j,j<n1->Below 0 (c1 j)) (b2:∀j,j<n2->Below 0 (c2 j)) (b3:∀j,j<n3->Below 0 (c3 j)) (g:R.σ)=>yn R (aE p on) n0 n1 n2 n3 c0 c1 c2 c3 b0 b1 b2 b3 hlq hrq hpq hhq g
   refine⟨_,AH _,vcR [] (lkL [(13,[1,7,9,12,13]),(14,[1,7,9,12,13,14]),(15,[1,7,9,13,14,62,63,64])]) (lkL [(13,[(1,ROrc.call (tup 2 (nth [ow true 5 (List.length (ak (aE p on)).fst) 2,ref 4 0])) (cells false 2 (nth [int i64 p.atoms,ad p.rules])::(cells false 1 fun (x:Nat)=>int u64 (↑on:Int))::cells false 2 (nth [int i64 p.atoms,fz Fz.auto 2 (List.length (aE p on).rules.l) fun (i:Nat)=>bB (List.getD (aE p on).rules.l i default)])::(cells false (List.length (aM on p.rules.l)*1) fun (a:Nat)=>ab (bh on p.rules.l 0) a)::cells false 27 (aI (ak (aE p on)).snd)::cells false (List.length (ak (aE p on)).fst*2) (cg 6 (ak (aE p on)).fst)::bE (ac (ak (aE p on)).fst) []) g)])]) (fun Q=>(fun (u1:List AObj)=>(fun (u2:List AV)=>(fun (u3:Nat)=>2<=2/\(true=true/\Does Tryd.prog R 60 [agg 2 (nth u2)] [cells false 2 (nth [int i64 p.atoms,ad p.rules]),cells false 1 fun x=>int u64 (↑on:Int),cells false 2 (nth u2),cells false (List.length (aM on p.rules.l)*1) fun a=>ab (bh on p.rules.l 0) a] g (ret (tup 2 (nth [ow true 5 u3 2,ref 4 0]))) u1 g)/\WpC Tryd.prog R 98 0 25 [1,1,1,1,1,1,1,1,0,1,0] Q [Kont.blk 2,Kont.seq [1,1,1,1,1,1,1,1,1]] (St.mk [(1,int i64 goal),(7,ref 1 0),(9,ow true 3 (List.length (aM on p.rules.l)) 1),(13,ref 4 0),(14,fz Fz.nil 0 0 fun x x_1=>any),(62,ow true 5 u3 2),(63,int i64 (↑u3:Int)),(64,int i64 0)] u1 g)) (List.length (ak (aE p on)).fst)) ([int i64 p.atoms,fz Fz.auto 2 (List.length (aE p on).rules.l) fun i=>bB (List.getD (aE p on).rules.l i default)])) ([cells false 2 (nth [int i64 p.atoms,ad p.rules]),cells false 1 fun x=>int u64 (↑on:Int),cells false 2 (nth [int i64 p.atoms,fz Fz.auto 2 (List.length (aE p on).rules.l) fun i=>bB (List.getD (aE p on).rules.l i default)]),cells false (List.length (aM on p.rules.l)*1) fun a=>ab (bh on p.rules.l 0) a,cells false 27 (aI (ak (aE p on)).snd),cells false (List.length (ak (aE p on)).fst*2) (cg 6 (ak (aE p on)).fst),ac (ak (aE p on)).fst 0,ac (ak (aE p on)).fst 1,ac (ak (aE p on)).fst 2,ac (ak (aE p on)).fst 3,ac (ak (aE p on)).fst 4,ac (ak (aE p on)).fst 5,ac (ak (aE p on)).fst 6,ac (ak (aE p on)).fst 7,ac (ak (aE p on)).fst 8,ac (ak (aE p on)).fst 9,ac (ak (aE p on)).fst 10,ac (ak (aE p on)).fst 11,ac (ak (aE p on)).fst 12,ac (ak (aE p on)).fst 13,ac (ak (aE p on)).fst 14,ac (ak (aE p on)).fst 15,ac (ak (aE p on)).fst 16,ac (ak (aE p on)).fst 17,ac (ak (aE p on)).fst 18,ac (ak (aE p on)).fst 19,ac (ak (aE p on)).fst 20,ac (ak (aE p on)).fst 21,ac (ak (aE p on)).fst 22,ac (ak (aE p on)).fst 23])) ⟨omg,⟨rfl,(hD _ _ _ _ _ _ _ _ _ ?_ ?_ ?_ ?_ _)⟩,?_⟩⟩
   ·exact fun j hj=>match j,hj with|0,_=>trivial|1,_=>trivial
   ·exact fun j _=>trivial
   ·exact fun j hj=>match j,hj with|0,_=>trivial|1,_=>trivial
   ·exact fun j _=>trivial
   obtain⟨L,hL⟩:∃L,(ak (aE p on)).1=L:=⟨_,rfl⟩
   obtain⟨V,hV⟩:∃V,(ak (aE p on)).2=V:=⟨_,rfl⟩
   obtain⟨NU,hNU⟩:∃NU,bh on p.rules.l 0=NU:=⟨_,rfl⟩
   have hL24:L.length<=24:=by rw[<-hL];exact n7 hpq hrq hhq
   rw[hL,hV,hNU]
   refine br (eO (fun _=>.any) 1) ?_
   refine(aZ krf (fun (x:Nat × Nat)=>⟨[(1,int i64 goal),(7,ref 1 0),(9,ow true 3 ((aM on p.rules.l).length) 1),(13,ref 4 0),(14,.ow true 30 x.2 2),(62,ow true 5 (L.length) 2),(63,int i64 (L.length:Int)),(64,.int .i64 x.1)],(.cells false 2 (nth [.int .i64 p.atoms,ad p.rules])::.cells false 1 (fun _=>.int .u64 on)::.cells false 2 (nth [.int .i64 p.atoms,ad (aE p on).rules])::.cells false ((aM on p.rules.l).length*1) (ab NU)::.cells false 27 (aI V)::.cells false (L.length*2) (cg 6 L)::bE (ae on L x.1) [.cells false (x.2*2) (bz on NU L (aW on L x.1))]),g⟩) (fun (x:Nat × Nat)=>(x.1<=L.length/\x.2=(aW on L x.1).length)) (fun (x:Nat × Nat)=>(L.length-x.1)) ((0,0):Nat × Nat) (toL (h1:=⟨Av _,Av _,Av _,Av _,Le.nil_ow,Av _,Av _,(Aw krf),trivial⟩) (h2:=⟨Ax,Ax,Ax,Ax,Ax,Ax,Ax,Ax,Ax,Ax,Ax,Ax,Ax,Ax,Ax,Ax,Ax,Ax,Ax,Ax,Ax,Ax,Ax,Ax,Ax,Ax,Ax,Ax,Ax,Ax,⟨rfl,Nat.le_refl _,fun j hj=>absurd hj (Nat.not_lt_zero j)⟩,trivial⟩)) ?_ (fun x hi=>?_))
   ·exact⟨Nat.zero_le _,rfl⟩
   ·obtain⟨i,m⟩:=x
    obtain⟨hi,hm⟩:=hi
    simp only at hi hm
    have hm24:m<=i:=by
     rw[hm]
     unfold aW
     exact Nat.le_trans (List.length_filter_le _ _) (by rw[List.length_range];omega)
    rcases Nat.lt_or_ge i L.length with hi'|hi'
    ·have hso:j3 (aE p on) (L.getD i default):=by
      have:=rY hpq hrq hhq 25 (fun _=>3) [] (fun s hs=>(by cases hs))
      exact this _ (by
       have h:L.getD i default∈L:=bZ _ default hi'
       have h2:L.getD i default∈(ak (aE p on)).1:=hL.symm▸h
       exact h2)
     obtain⟨o1,o2,o3,o4⟩:=hso
     have o1:0<=(L.getD i default).rule->(L.getD i default).rule<(aM on p.rules.l).length:=o1
     have o4:∀a,a∈(L.getD i default).atoms->0<=a/\a<24:=fun a ha=>by
      have:=o4 a ha
      have e:(aE p on).atoms=p.atoms:=rfl
      omega
     by_cases hru:0<=(L.getD i default).rule
     ·have hru1:=o1 hru
      have hge:decide ((L.getD i default).rule >= 0)=true:=decide_eq_true hru
      have har:hU NU (L.getD i default)=NU.getD (L.getD i default).rule.toNat 0:=if_pos hru
      refine vcR [[1,1,1,1,1,1,1,1,0,1,0,0,1,1,0,0,1,0,1,1]] (lkL [(16,[1,7,9,13,14,62,63,64,65]),(17,[1,7,9,13,14,16,62,63,64]),(18,[1,7,9,13,14,16,62,63,64,70]),(19,[1,7,9,13,14,16,62,63,64]),(20,[1,7,9,13,14,16,62,63,64]),(21,[1,7,9,13,14,16,62,63,64,85]),(22,[1,7,9,13,14,62,63,64]),(23,[1,7,9,13,14,62,63,64])]) (lkL [(17,[(1,ROrc.kop (agg 2 (nth [int i64 (List.getD L i default).rule,ow true (6+i) (List.length (List.getD L i default).atoms) 1]))),(3,ROrc.val (Orc.obj (nth [int i64 (List.getD L i default).rule,ow true (6+i) (List.length (List.getD L i default).atoms) 1])))]),(19,[(6,ROrc.val (Orc.obj (nth [ab NU (Int.toNat (List.getD L i default).rule),ow true (6+i) (List.length (List.getD L i default).atoms) 1])))]),(20,[(3,ROrc.call (sl (6+i) 0 (List.length (aY on (List.getD L i default).atoms)) (List.length (List.getD L i default).atoms) false 1) (cells false 2 (nth [int i64 p.atoms,ad p.rules])::(cells false 1 fun (x:Nat)=>int u64 (↑on:Int))::cells false 2 (nth [int i64 p.atoms,ad (aE p on).rules])::cells false (List.length (aM on p.rules.l)*1) (ab NU)::cells false 27 (aI V)::cells false (List.length L*2) (cg 6 L)::bE (ae on L (i+1)) [cells false (m*2) (bz on NU L (aW on L i)),cells false 2 (nth [int i64 (List.getD NU (Int.toNat (List.getD L i default).rule) 0),ow true (6+i) (List.length (List.getD L i default).atoms) 1])]) g),(5,ROrc.val (Orc.obj (nth [ab NU (Int.toNat (List.getD L i default).rule),sl (6+i) 0 (List.length (aY on (List.getD L i default).atoms)) (List.length (List.getD L i default).atoms) false 1])))]),(22,[(3,ROrc.val (Orc.obj (bz on NU L (aW on L i++[i]))))])]) (fun Q=>(fun (u1:List AObj)=>(fun (u2:Stp)=>(fun (u3:AObj)=>(fun (u4:AV)=>(fun (u5:AV)=>(fun (u6:Nat)=>(fun (u7:Int)=>(fun (u8:Nat)=>(fun (u9:AObj)=>(fun (u10:AV)=>(fun (u11:List (Nat × AV))=>(fun (u12:AObj)=>(fun (u13:AObj)=>(fun (u14:AObj)=>(fun (u15:AObj)=>(fun (u16:Int)=>(decide ((↑i:Int)<u7)=true->(0<=(↑i:Int)/\(↑i:Int)<u7)/\OpOk Tryd.prog R (Oper.mk (some 67) (Op.load 71 (Operand.tmp 66)) 71 "table.go:316" #[Edge.mk 0 Ground.data] none) (evO [Row.mk (some 66) none (ref 5 (i*2)) false (some []) []] u11 []) u1 g (agg 2 (nth [int i64 u2.rule,u5])) u1 g/\2<=2/\(∀(c:Nat),c<2->nth [int i64 u2.rule,u5] c=ah (nth [int i64 0,fz Fz.nil 0 0 fun x x_1=>any]) 0 2 (List.brecOn (motive:=fun (x:List AV)=>Nat->AV) [int i64 u2.rule,u5] nth._f) c)/\1<=2/\(decide (u2.rule >= 0)=true->1<=2/\(0<=u2.rule/\u2.rule<(↑u6:Int))/\Int.toNat u2.rule+1<=u6*1/\1<=2/\(∀(c:Nat),c<2->nth [u10,u5] c=ah (nth [int i64 u2.rule,u5]) 0 1 (fun (x:Nat)=>u10) c)/\2<=2/\(true=true/\Does Tryd.prog R 72 [u5,fn 73 0 (nth []) 1 (nth [ref 1 0])] [u9,u12,u3,u13,cells false 27 (aI V),u14,ae on L i 0,ae on L i 1,ae on L i 2,ae on L i 3,ae on L i 4,ae on L i 5,ae on L i 6,ae on L i 7,ae on L i 8,ae on L i 9,ae on L i 10,ae on L i 11,ae on L i 12,ae on L i 13,ae on L i 14,ae on L i 15,ae on L i 16,ae on L i 17,ae on L i 18,ae on L i 19,ae on L i 20,ae on L i 21,ae on L i 22,ae on L i 23,u15,cells false 2 (nth [u10,u5])] g (ret u4) [u9,u12,u3,u13,cells false 27 (aI V),u14,ae on L u8 0,ae on L u8 1,ae on L u8 2,ae on L u8 3,ae on L u8 4,ae on L u8 5,ae on L u8 6,ae on L u8 7,ae on L u8 8,ae on L u8 9,ae on L u8 10,ae on L u8 11,ae on L u8 12,ae on L u8 13,ae on L u8 14,ae on L u8 15,ae on L u8 16,ae on L u8 17,ae on L u8 18,ae on L u8 19,ae on L u8 20,ae on L u8 21,ae on L u8 22,ae on L u8 23,u15,cells false 2 (nth [u10,u5])] g)/\2<=2/\(∀(c:Nat),c<2->nth [u10,u4] c=ah (nth [u10,u5]) 1 1 (fun (x:Nat)=>u4) c)/\2<=2/\(decide (u16 > 0)=true->2<=2/\0<2/\(m+1)*32<=ax/\m+1<=ax/\2<=2/\m*2<=m*2/\(∀(c:Nat),c<(m+1)*2->bz on NU L (aW on L i++[i]) c=aS 2 m (fun (i_1 j:Nat)=>bz on NU L (aW on L i) (i_1*2+j)) (fun (i j:Nat)=>ah (fun (j:Nat)=>nth [int i64 0,fz Fz.nil 0 0 fun x x_1=>any] (j%2)) 0 2 (List.brecOn (motive:=fun (x:List AV)=>Nat->AV) [u10,u4] nth._f) (0+i*2+j)) c)/\(-9223372036854775808<=(↑i:Int)+1/\(↑i:Int)+1<=9223372036854775807)/\Q AEx.normal (St.mk [(1,int i64 goal),(7,ref 1 0),(9,ow true 3 u6 1),(13,ref 4 0),(14,ow true 33 (m+1) 2),(62,ow true 5 (List.length L) 2),(63,int i64 u7),(64,int i64 ((↑i:Int)+1))] [u9,u12,u3,u13,cells false 27 (aI V),u14,ae on L u8 0,ae on L u8 1,ae on L u8 2,ae on L u8 3,ae on L u8 4,ae on L u8 5,ae on L u8 6,ae on L u8 7,ae on L u8 8,ae on L u8 9,ae on L u8 10,ae on L u8 11,ae on L u8 12,ae on L u8 13,ae on L u8 14,ae on L u8 15,ae on L u8 16,ae on L u8 17,ae on L u8 18,ae on L u8 19,ae on L u8 20,ae on L u8 21,ae on L u8 22,ae on L u8 23,dead,cells false 2 (nth [u10,u4]),cells false 2 (ah (fun (j:Nat)=>nth [int i64 0,fz Fz.nil 0 0 fun x x_1=>any] (j%2)) 0 2 (List.brecOn (motive:=fun (x:List AV)=>Nat->AV) [u10,u4] nth._f)),cells false ((m+1)*2) (bz on NU L (aW on L i++[i]))] g))/\(decide (u16 > 0)=false->(-9223372036854775808<=(↑i:Int)+1/\(↑i:Int)+1<=9223372036854775807)/\Q AEx.normal (St.mk [(1,int i64 goal),(7,ref 1 0),(9,ow true 3 u6 1),(13,ref 4 0),(14,ow true 30 m 2),(62,ow true 5 (List.length L) 2),(63,int i64 u7),(64,int i64 ((↑i:Int)+1))] [u9,u12,u3,u13,cells false 27 (aI V),u14,ae on L u8 0,ae on L u8 1,ae on L u8 2,ae on L u8 3,ae on L u8 4,ae on L u8 5,ae on L u8 6,ae on L u8 7,ae on L u8 8,ae on L u8 9,ae on L u8 10,ae on L u8 11,ae on L u8 12,ae on L u8 13,ae on L u8 14,ae on L u8 15,ae on L u8 16,ae on L u8 17,ae on L u8 18,ae on L u8 19,ae on L u8 20,ae on L u8 21,ae on L u8 22,ae on L u8 23,u15,cells false 2 (nth [u10,u4])] g)))/\(decide (u2.rule >= 0)=false->WpC Tryd.prog R 98 0 25 [1,1,1,1,1,1,1,1,0,1,0,0,1,1,0,0,1,0,1,1] Q [Kont.seq [1,1,1,1,1,1,1,1,0,1,0,0,1,1,0,0,1,1],Kont.blk 3,Kont.seq [1,1,1,1,1,1,1,1,0,1,0,0,1,1,1]] (St.mk [(1,int i64 goal),(7,ref 1 0),(9,ow true 3 u6 1),(13,ref 4 0),(14,ow true 30 m 2),(16,ref 31 0),(62,ow true 5 (List.length L) 2),(63,int i64 u7),(64,int i64 (↑i:Int)),(70,AV.bool (decide (u2.rule >= 0)))] [u9,u12,u3,u13,cells false 27 (aI V),u14,ae on L i 0,ae on L i 1,ae on L i 2,ae on L i 3,ae on L i 4,ae on L i 5,ae on L i 6,ae on L i 7,ae on L i 8,ae on L i 9,ae on L i 10,ae on L i 11,ae on L i 12,ae on L i 13,ae on L i 14,ae on L i 15,ae on L i 16,ae on L i 17,ae on L i 18,ae on L i 19,ae on L i 20,ae on L i 21,ae on L i 22,ae on L i 23,u15,cells false 2 (nth [int i64 u2.rule,u5])] g)))/\(decide ((↑i:Int)<u7)=false->Q (AEx.exit 2) (St.mk u11 u1 g))) ((↑(List.length (aY on u2.atoms)):Int))) (cells false (m*2) (bz on NU L (aW on L i)))) (cells false (List.length L*2) (cg 6 L))) (cells false (u6*1) fun a=>ab NU a)) (cells false 1 fun x=>int u64 (↑on:Int))) ([(1,int i64 goal),(7,ref 1 0),(9,ow true 3 u6 1),(13,ref 4 0),(14,ow true 30 m 2),(62,ow true 5 (List.length L) 2),(63,int i64 u7),(64,int i64 (↑i:Int)),(65,AV.bool (decide ((↑i:Int)<u7)))])) (ab NU (Int.toNat u2.rule))) (cells false 2 (nth [int i64 p.atoms,ad p.rules]))) (i+1)) ((↑(List.length L):Int))) (List.length (aM on p.rules.l))) (ow true (6+i) (List.length u2.atoms) 1)) (sl (6+i) 0 (List.length (aY on u2.atoms)) (List.length u2.atoms) false 1)) (cells false 2 (nth [int i64 p.atoms,fz Fz.auto 2 (List.length (aE p on).rules.l) fun i=>bB (List.getD (aE p on).rules.l i default)]))) (List.getD L i default)) ([cells false 2 (nth [int i64 p.atoms,ad p.rules]),cells false 1 fun x=>int u64 (↑on:Int),cells false 2 (nth [int i64 p.atoms,fz Fz.auto 2 (List.length (aE p on).rules.l) fun i=>bB (List.getD (aE p on).rules.l i default)]),cells false (List.length (aM on p.rules.l)*1) fun a=>ab NU a,cells false 27 (aI V),cells false (List.length L*2) (cg 6 L),ae on L i 0,ae on L i 1,ae on L i 2,ae on L i 3,ae on L i 4,ae on L i 5,ae on L i 6,ae on L i 7,ae on L i 8,ae on L i 9,ae on L i 10,ae on L i 11,ae on L i 12,ae on L i 13,ae on L i 14,ae on L i 15,ae on L i 16,ae on L i 17,ae on L i 18,ae on L i 19,ae on L i 20,ae on L i 21,ae on L i 22,ae on L i 23,cells false (m*2) (bz on NU L (aW on L i))])) ⟨fun c1=>have c1:(↑i:Int)<(↑(List.length L):Int):=(of_decide_eq_true c1);⟨omg,?_,omg,(fun c hc=>match c,hc with|0,_=>krf|1,_=>krf ),omg,fun _=>⟨omg,omg,omg,omg,(fun c hc=>match c,hc with|0,_=>krf|1,_=>krf ),omg,?_,omg,(fun c hc=>match c,hc with|0,_=>krf|1,_=>krf ),omg,fun c2=>have c2:(↑(List.length (aY on (List.getD L i default).atoms)):Int) > 0:=(of_decide_eq_true c2);⟨omg,omg,omg,omg,omg,omg,?_,omg,?_⟩,fun c2=>have c2:¬(↑(List.length (aY on (List.getD L i default).atoms)):Int) > 0:=(of_decide_eq_false c2);⟨omg,?_⟩⟩,fun hcc=>(nomatch (hge.symm.trans hcc))⟩,fun c1=>have c1:¬(↑i:Int)<(↑(List.length L):Int):=(of_decide_eq_false c1);?_⟩
      ·exact qv rfl rfl krf rfl (by show i*2+2<=L.length*2;omega) r9
      ·exact⟨rfl,r8 R on L i _ _ _ _ _ _ _ omg hlt ⟨o2,omg⟩ o4 g⟩
      ·intro c hc
       rw[hm] at hc ⊢
       exact(sa (on:=on) (nums:=NU) (l:=L) (q:=aW on L i) (i:=i) (z:=fun j=>nth [.int .i64 0,.fz .nil 0 0 fun _ _=>.any] (j%2)) hc).trans (by rw[har];kernel_rfl)
      ·have hsc:=lR (on:=on) (l:=L) (i:=i)
       rw[if_pos (show 0<(aY on (L.getD i default).atoms).length by omega)] at hsc
       have hm2:m+1=(aW on L (i+1)).length:=by rw[hsc,List.length_append,<-hm];rfl
       refine aL (i+1,m+1) (toS (hZ 33) 34 (hob:=lS hL24 omg hm2 (by rw[hsc];rfl))) ⟨by show i+1<=_;omega,hm2⟩ (by show L.length-(i+1)<L.length-i;omega)
      ·have hsc:=lR (on:=on) (l:=L) (i:=i)
       rw[if_neg (show ¬0<(aY on (L.getD i default).atoms).length by omega)] at hsc
       have hm2:m=(aW on L (i+1)).length:=by rw[hsc,<-hm]
       refine aL (i+1,m) (toS (hZ 30) 32 (hob:=lS hL24 omg hm2 (by rw[hsc];rfl))) ⟨by show i+1<=_;omega,hm2⟩ (by show L.length-(i+1)<L.length-i;omega)
      ·exfalso;omega
     ·have hge:decide ((L.getD i default).rule >= 0)=false:=decide_eq_false omg
      have har:hU NU (L.getD i default)=(L.getD i default).rule:=if_neg hru
      refine vcR [[1,1,1,1,1,1,1,1,0,1,0,0,1,1,0,0,1,0,1,0]] (lkL [(16,[1,7,9,13,14,62,63,64,65]),(17,[1,7,9,13,14,16,62,63,64]),(18,[1,7,9,13,14,16,62,63,64,70]),(20,[1,7,9,13,14,16,62,63,64]),(21,[1,7,9,13,14,16,62,63,64,85]),(22,[1,7,9,13,14,62,63,64]),(23,[1,7,9,13,14,62,63,64])]) (lkL [(17,[(1,ROrc.kop (agg 2 (nth [int i64 (List.getD L i default).rule,ow true (6+i) (List.length (List.getD L i default).atoms) 1]))),(3,ROrc.val (Orc.obj (nth [int i64 (List.getD L i default).rule,ow true (6+i) (List.length (List.getD L i default).atoms) 1])))]),(20,[(3,ROrc.call (sl (6+i) 0 (List.length (aY on (List.getD L i default).atoms)) (List.length (List.getD L i default).atoms) false 1) (cells false 2 (nth [int i64 p.atoms,ad p.rules])::(cells false 1 fun (x:Nat)=>int u64 (↑on:Int))::cells false 2 (nth [int i64 p.atoms,ad (aE p on).rules])::cells false (List.length (aM on p.rules.l)*1) (ab NU)::cells false 27 (aI V)::cells false (List.length L*2) (cg 6 L)::bE (ae on L (i+1)) [cells false (m*2) (bz on NU L (aW on L i)),cells false 2 (nth [int i64 (List.getD L i default).rule,ow true (6+i) (List.length (List.getD L i default).atoms) 1])]) g),(5,ROrc.val (Orc.obj (nth [int i64 (List.getD L i default).rule,sl (6+i) 0 (List.length (aY on (List.getD L i default).atoms)) (List.length (List.getD L i default).atoms) false 1])))]),(22,[(3,ROrc.val (Orc.obj (bz on NU L (aW on L i++[i]))))])]) (fun Q=>(fun (u1:List AObj)=>(fun (u2:List AObj)=>(fun (u3:Stp)=>(fun (u4:AV)=>(fun (u5:Int)=>(fun (u6:AObj)=>(fun (u7:List (Nat × AV))=>(fun (u8:List AV)=>(fun (u9:Nat)=>(fun (u10:Nat)=>(fun (u11:Int)=>(fun (u12:Int)=>(fun (u13:AObj)=>(fun (u14:AObj)=>(fun (u15:List AV)=>(fun (u16:AObj)=>(decide (u12<u5)=true->(0<=u12/\u12<u5)/\OpOk Tryd.prog R (Oper.mk (some 67) (Op.load 71 (Operand.tmp 66)) 71 "table.go:316" #[Edge.mk 0 Ground.data] none) (evO [Row.mk (some 66) none (ref 5 (i*2)) false (some []) []] u7 []) u1 g (agg 2 (nth u8)) u1 g/\2<=2/\(∀(c:Nat),c<2->nth u8 c=ah (nth u15) 0 2 (List.brecOn (motive:=fun (x:List AV)=>Nat->AV) u8 nth._f) c)/\1<=2/\(decide (u3.rule >= 0)=true->WpC Tryd.prog R 98 0 25 [1,1,1,1,1,1,1,1,0,1,0,0,1,1,0,0,1,0,1,0] Q [Kont.seq [1,1,1,1,1,1,1,1,0,1,0,0,1,1,0,0,1,1],Kont.blk 3,Kont.seq [1,1,1,1,1,1,1,1,0,1,0,0,1,1,1]] (St.mk [(1,int i64 goal),(7,ref 1 0),(9,ow true 3 u10 1),(13,ref 4 0),(14,ow true 30 m 2),(16,ref 31 0),(62,ow true 5 (List.length L) 2),(63,int i64 u5),(64,int i64 u12),(70,AV.bool (decide (u3.rule >= 0)))] u2 g))/\(decide (u3.rule >= 0)=false->2<=2/\(true=true/\Does Tryd.prog R 72 [ow true (6+i) (List.length u3.atoms) 1,fn 73 0 (nth []) 1 (nth [ref 1 0])] u2 g (ret u4) [u13,u14,u6,u16,cells false 27 (aI V),cells false (List.length L*2) (cg 6 L),ae on L u9 0,ae on L u9 1,ae on L u9 2,ae on L u9 3,ae on L u9 4,ae on L u9 5,ae on L u9 6,ae on L u9 7,ae on L u9 8,ae on L u9 9,ae on L u9 10,ae on L u9 11,ae on L u9 12,ae on L u9 13,ae on L u9 14,ae on L u9 15,ae on L u9 16,ae on L u9 17,ae on L u9 18,ae on L u9 19,ae on L u9 20,ae on L u9 21,ae on L u9 22,ae on L u9 23,cells false (m*2) (bz on NU L (aW on L i)),cells false 2 (nth u8)] g)/\2<=2/\(∀(c:Nat),c<2->nth [int i64 u3.rule,u4] c=ah (nth u8) 1 1 (fun (x:Nat)=>u4) c)/\2<=2/\(decide (u11 > 0)=true->2<=2/\0<2/\(m+1)*32<=ax/\m+1<=ax/\2<=2/\m*2<=m*2/\(∀(c:Nat),c<(m+1)*2->bz on NU L (aW on L i++[i]) c=aS 2 m (fun (i_1 j:Nat)=>bz on NU L (aW on L i) (i_1*2+j)) (fun (i j:Nat)=>ah (fun (j:Nat)=>nth u15 (j%2)) 0 2 (List.brecOn (motive:=fun (x:List AV)=>Nat->AV) [int i64 u3.rule,u4] nth._f) (0+i*2+j)) c)/\(-9223372036854775808<=u12+1/\u12+1<=9223372036854775807)/\Q AEx.normal (St.mk [(1,int i64 goal),(7,ref 1 0),(9,ow true 3 u10 1),(13,ref 4 0),(14,ow true 33 (m+1) 2),(62,ow true 5 (List.length L) 2),(63,int i64 u5),(64,int i64 (u12+1))] [u13,u14,u6,u16,cells false 27 (aI V),cells false (List.length L*2) (cg 6 L),ae on L u9 0,ae on L u9 1,ae on L u9 2,ae on L u9 3,ae on L u9 4,ae on L u9 5,ae on L u9 6,ae on L u9 7,ae on L u9 8,ae on L u9 9,ae on L u9 10,ae on L u9 11,ae on L u9 12,ae on L u9 13,ae on L u9 14,ae on L u9 15,ae on L u9 16,ae on L u9 17,ae on L u9 18,ae on L u9 19,ae on L u9 20,ae on L u9 21,ae on L u9 22,ae on L u9 23,dead,cells false 2 (nth [int i64 u3.rule,u4]),cells false 2 (ah (fun (j:Nat)=>nth u15 (j%2)) 0 2 (List.brecOn (motive:=fun (x:List AV)=>Nat->AV) [int i64 u3.rule,u4] nth._f)),cells false ((m+1)*2) (bz on NU L (aW on L i++[i]))] g))/\(decide (u11 > 0)=false->(-9223372036854775808<=u12+1/\u12+1<=9223372036854775807)/\Q AEx.normal (St.mk [(1,int i64 goal),(7,ref 1 0),(9,ow true 3 u10 1),(13,ref 4 0),(14,ow true 30 m 2),(62,ow true 5 (List.length L) 2),(63,int i64 u5),(64,int i64 (u12+1))] [u13,u14,u6,u16,cells false 27 (aI V),cells false (List.length L*2) (cg 6 L),ae on L u9 0,ae on L u9 1,ae on L u9 2,ae on L u9 3,ae on L u9 4,ae on L u9 5,ae on L u9 6,ae on L u9 7,ae on L u9 8,ae on L u9 9,ae on L u9 10,ae on L u9 11,ae on L u9 12,ae on L u9 13,ae on L u9 14,ae on L u9 15,ae on L u9 16,ae on L u9 17,ae on L u9 18,ae on L u9 19,ae on L u9 20,ae on L u9 21,ae on L u9 22,ae on L u9 23,cells false (m*2) (bz on NU L (aW on L i)),cells false 2 (nth [int i64 u3.rule,u4])] g))))/\(decide (u12<u5)=false->Q (AEx.exit 2) (St.mk u7 u1 g))) (cells false (u10*1) fun a=>ab NU a)) ([int i64 0,fz Fz.nil 0 0 fun x x_1=>any])) (cells false 1 fun x=>int u64 (↑on:Int))) (cells false 2 (nth [int i64 p.atoms,ad p.rules]))) ((↑i:Int))) ((↑(List.length (aY on u3.atoms)):Int))) (List.length (aM on p.rules.l))) (i+1)) ([int i64 u3.rule,ow true (6+i) (List.length u3.atoms) 1])) ([(1,int i64 goal),(7,ref 1 0),(9,ow true 3 (List.length (aM on p.rules.l)) 1),(13,ref 4 0),(14,ow true 30 m 2),(62,ow true 5 (List.length L) 2),(63,int i64 u5),(64,int i64 (↑i:Int)),(65,AV.bool (decide ((↑i:Int)<u5)))])) (cells false 2 (nth [int i64 p.atoms,fz Fz.auto 2 (List.length (aE p on).rules.l) fun i=>bB (List.getD (aE p on).rules.l i default)]))) ((↑(List.length L):Int))) (sl (6+i) 0 (List.length (aY on u3.atoms)) (List.length u3.atoms) false 1)) (List.getD L i default)) ([cells false 2 (nth [int i64 p.atoms,ad p.rules]),cells false 1 fun x=>int u64 (↑on:Int),cells false 2 (nth [int i64 p.atoms,fz Fz.auto 2 (List.length (aE p on).rules.l) fun i=>bB (List.getD (aE p on).rules.l i default)]),cells false (List.length (aM on p.rules.l)*1) fun a=>ab NU a,cells false 27 (aI V),cells false (List.length L*2) (cg 6 L),ae on L i 0,ae on L i 1,ae on L i 2,ae on L i 3,ae on L i 4,ae on L i 5,ae on L i 6,ae on L i 7,ae on L i 8,ae on L i 9,ae on L i 10,ae on L i 11,ae on L i 12,ae on L i 13,ae on L i 14,ae on L i 15,ae on L i 16,ae on L i 17,ae on L i 18,ae on L i 19,ae on L i 20,ae on L i 21,ae on L i 22,ae on L i 23,cells false (m*2) (bz on NU L (aW on L i)),cells false 2 (nth [int i64 (List.getD L i default).rule,ow true (6+i) (List.length (List.getD L i default).atoms) 1])])) ([cells false 2 (nth [int i64 p.atoms,ad p.rules]),cells false 1 fun x=>int u64 (↑on:Int),cells false 2 (nth [int i64 p.atoms,fz Fz.auto 2 (List.length (aE p on).rules.l) fun i=>bB (List.getD (aE p on).rules.l i default)]),cells false (List.length (aM on p.rules.l)*1) fun a=>ab NU a,cells false 27 (aI V),cells false (List.length L*2) (cg 6 L),ae on L i 0,ae on L i 1,ae on L i 2,ae on L i 3,ae on L i 4,ae on L i 5,ae on L i 6,ae on L i 7,ae on L i 8,ae on L i 9,ae on L i 10,ae on L i 11,ae on L i 12,ae on L i 13,ae on L i 14,ae on L i 15,ae on L i 16,ae on L i 17,ae on L i 18,ae on L i 19,ae on L i 20,ae on L i 21,ae on L i 22,ae on L i 23,cells false (m*2) (bz on NU L (aW on L i))])) ⟨fun c1=>have c1:(↑i:Int)<(↑(List.length L):Int):=(of_decide_eq_true c1);⟨omg,?_,omg,(fun c hc=>match c,hc with|0,_=>krf|1,_=>krf ),omg,fun hcc=>(nomatch (hge.symm.trans hcc)),fun _=>⟨omg,?_,omg,(fun c hc=>match c,hc with|0,_=>krf|1,_=>krf ),omg,fun c2=>have c2:(↑(List.length (aY on (List.getD L i default).atoms)):Int) > 0:=(of_decide_eq_true c2);⟨omg,omg,omg,omg,omg,omg,?_,omg,?_⟩,fun c2=>have c2:¬(↑(List.length (aY on (List.getD L i default).atoms)):Int) > 0:=(of_decide_eq_false c2);⟨omg,?_⟩⟩⟩,fun c1=>have c1:¬(↑i:Int)<(↑(List.length L):Int):=(of_decide_eq_false c1);?_⟩
      ·exact qv rfl rfl krf rfl (by show i*2+2<=L.length*2;omega) r9
      ·exact⟨rfl,r8 R on L i _ _ _ _ _ _ _ omg hlt ⟨o2,omg⟩ o4 g⟩
      ·intro c hc
       rw[hm] at hc ⊢
       exact(sa (on:=on) (nums:=NU) (l:=L) (q:=aW on L i) (i:=i) (z:=fun j=>nth [.int .i64 0,.fz .nil 0 0 fun _ _=>.any] (j%2)) hc).trans (by rw[har];kernel_rfl)
      ·have hsc:=lR (on:=on) (l:=L) (i:=i)
       rw[if_pos (show 0<(aY on (L.getD i default).atoms).length by omega)] at hsc
       have hm2:m+1=(aW on L (i+1)).length:=by rw[hsc,List.length_append,<-hm];rfl
       refine aL (i+1,m+1) (toS (hZ 33) 34 (hob:=lS hL24 omg hm2 (by rw[hsc];rfl))) ⟨by show i+1<=_;omega,hm2⟩ (by show L.length-(i+1)<L.length-i;omega)
      ·have hsc:=lR (on:=on) (l:=L) (i:=i)
       rw[if_neg (show ¬0<(aY on (L.getD i default).atoms).length by omega)] at hsc
       have hm2:m=(aW on L (i+1)).length:=by rw[hsc,<-hm]
       refine aL (i+1,m) (toS (hZ 30) 32 (hob:=lS hL24 omg hm2 (by rw[hsc];rfl))) ⟨by show i+1<=_;omega,hm2⟩ (by show L.length-(i+1)<L.length-i;omega)
      ·exfalso;omega
    ·have hie:i=L.length:=by omega
     subst hie
     have hbb2:decide ((L.length:Int)<(L.length:Int))=false:=decide_eq_false omg
     refine vcR [[1,1,1,1,1,1,1,1,0,1,0,0,1,0,0]] (lkL [(16,[1,7,9,13,14,62,63,64,65])]) (fun _=>[]) (fun Q=>(fun (u1:St R.σ)=>(fun (u2:Int)=>(decide (u2<u2)=true->WpC Tryd.prog R 98 0 25 [1,1,1,1,1,1,1,1,0,1,0,0,1,0,0] Q [Kont.seq [1,1,1,1,1,1,1,1,0,1,0,0,1,1]] u1)/\(decide (u2<u2)=false->Q (AEx.exit 2) u1)) ((↑(List.length L):Int))) (St.mk [(1,int i64 goal),(7,ref 1 0),(9,ow true 3 (List.length (aM on p.rules.l)) 1),(13,ref 4 0),(14,ow true 30 m 2),(62,ow true 5 (List.length L) 2),(63,int i64 (↑(List.length L):Int)),(64,int i64 (↑(List.length L):Int)),(65,AV.bool (decide ((↑(List.length L):Int)<(↑(List.length L):Int))))] [cells false 2 (nth [int i64 p.atoms,ad p.rules]),cells false 1 fun x=>int u64 (↑on:Int),cells false 2 (nth [int i64 p.atoms,fz Fz.auto 2 (List.length (aE p on).rules.l) fun i=>bB (List.getD (aE p on).rules.l i default)]),cells false (List.length (aM on p.rules.l)*1) fun a=>ab NU a,cells false 27 (aI V),cells false (List.length L*2) (cg 6 L),ae on L (List.length L) 0,ae on L (List.length L) 1,ae on L (List.length L) 2,ae on L (List.length L) 3,ae on L (List.length L) 4,ae on L (List.length L) 5,ae on L (List.length L) 6,ae on L (List.length L) 7,ae on L (List.length L) 8,ae on L (List.length L) 9,ae on L (List.length L) 10,ae on L (List.length L) 11,ae on L (List.length L) 12,ae on L (List.length L) 13,ae on L (List.length L) 14,ae on L (List.length L) 15,ae on L (List.length L) 16,ae on L (List.length L) 17,ae on L (List.length L) 18,ae on L (List.length L) 19,ae on L (List.length L) 20,ae on L (List.length L) 21,ae on L (List.length L) 22,ae on L (List.length L) 23,cells false (m*2) (bz on NU L (aW on L (List.length L)))] g)) ⟨fun hcc=>(nomatch (hbb2.symm.trans hcc)),fun _=>?_⟩
     all_goals first|(exfalso;rw[hbb2] at c1;cases c1)|skip
     refine⟨_,AH _,vcR [] (lkL [(24,[4,5,6])]) (lkL [(24,[(5,ROrc.kop (int i64 (V (Int.toNat goal))))])]) (fun Q=>(fun (u1:List AObj)=>(fun (u2:Int)=>(0<=goal/\goal<(↑24:Int))/\OpOk Tryd.prog R (Oper.mk (some 96) (Op.load 43 (Operand.tmp 95)) 43 "table.go:325" #[Edge.mk 4 Ground.data] none) (evO [Row.mk (some 95) none (ref 4 (Int.toNat goal+2)) false (some []) [],Row.mk (some 94) none (ref 4 2) false (some []) [],Row.mk (some 93) none (ref 4 0) false (some []) [],Row.mk (some 92) none (int i64 goal) false (some []) [],Row.mk (some 91) none (ref 4 0) false (some []) []] [(1,int i64 goal),(7,ref 1 0),(9,ow true 3 (List.length (aM on p.rules.l)) 1),(13,ref 4 0),(14,ow true 30 m 2),(62,ow true 5 (List.length L) 2),(63,int i64 u2),(64,int i64 u2),(65,AV.bool (decide (u2<u2)))] []) u1 g (int i64 (V (Int.toNat goal))) u1 g/\Q AEx.ret (St.mk [(4,int i64 (V (Int.toNat goal))),(5,ow true 30 m 2),(6,int i64 0)] u1 g)) ((↑(List.length L):Int))) ([cells false 2 (nth [int i64 p.atoms,ad p.rules]),cells false 1 fun x=>int u64 (↑on:Int),cells false 2 (nth [int i64 p.atoms,fz Fz.auto 2 (List.length (aE p on).rules.l) fun i=>bB (List.getD (aE p on).rules.l i default)]),cells false (List.length (aM on p.rules.l)*1) fun a=>ab NU a,cells false 27 (aI V),cells false (List.length L*2) (cg 6 L),ae on L (List.length L) 0,ae on L (List.length L) 1,ae on L (List.length L) 2,ae on L (List.length L) 3,ae on L (List.length L) 4,ae on L (List.length L) 5,ae on L (List.length L) 6,ae on L (List.length L) 7,ae on L (List.length L) 8,ae on L (List.length L) 9,ae on L (List.length L) 10,ae on L (List.length L) 11,ae on L (List.length L) 12,ae on L (List.length L) 13,ae on L (List.length L) 14,ae on L (List.length L) 15,ae on L (List.length L) 16,ae on L (List.length L) 17,ae on L (List.length L) 18,ae on L (List.length L) 19,ae on L (List.length L) 20,ae on L (List.length L) 21,ae on L (List.length L) 22,ae on L (List.length L) 23,cells false (m*2) (bz on NU L (aW on L (List.length L)))])) ⟨omg,?_,?_⟩⟩
     ·exact fQ rfl rfl krf rfl (by show _+1<=27;omega) (oh omg omg)
     ·show a9 Tryd.prog R 0 _ _ _ _ .ret _
      refine bY (.tup 3 (nth [.int .i64 (V goal.toNat),.ow true 30 m 2,.int .i64 0])) _ rfl trivial (fo 0 [(0,.tup 3 (nth [.int .i64 (V goal.toNat),aQ (eh on NU L),.int .i64 0]))] (Nat.le_refl _) (Nat.zero_le _) (fun i hi=>absurd hi (Nat.not_lt_zero i)) ⟨aq.tup (fun j hj=>match j,hj with|0,_=>AC trivial|1,_=>?_|2,_=>AC trivial),trivial⟩)
      exact yz hm hL24 rfl (fun k hk=>(j4 omg).trans rfl)
def hpD (p:Prg)(v:Nat->Int)(es:List (Value × AV))(c:Nat->AV):List AObj:=[.cells false 27 (ai p v (.mp 1)),.map es,.cells false 1 c]
theorem yB (R:Res)(p:Prg)(v:Nat->Int)(es:List (Value × AV))(c:Nat->AV)(g:R.σ):DoesD Tryd.prog R 100 [.ref 2 0] (hpD p v es c) g (some (.ifc 145 (.agg 0 (nth [])))) (hpD p v es (nth [.bool false])) g:=by
 refine vr (nt:=cK Tryd.prog 100) (rs:=dF Tryd.prog 100) (k0:=3) 4 1 krf krf krf rfl krf dcd dcd dcd dcd dcd ?_
 refine vcR [[1,1,0,0,1,1,0],[1,1,1]] (lkL [(1,[0,1,6]),(2,[0,1,3]),(3,[0,1,13])]) (lkL [(2,[(6,ROrc.kop any)]),(5,[(0,ROrc.val (Orc.obj (nth [AV.bool false])))])]) (fun Q=>(fun (u1:List AObj)=>(fun (u2:AV)=>(true=true->OpOk Tryd.prog R (Oper.mk none (Op.store 145 (Operand.tmp 2) (Operand.tmp 10)) 0 "table.go:214" #[Edge.mk 5 Ground.data,Edge.mk 3 Ground.data,Edge.mk 0 Ground.phase,Edge.mk 1 Ground.phase,Edge.mk 2 Ground.phase,Edge.mk 3 Ground.phase,Edge.mk 4 (Ground.textOnly Departure.lateStores),Edge.mk 5 Ground.phase] none) (evO [Row.mk (some 2) none (ref 3 0) true (some [3]) [],Row.mk (some 11) none (AV.bool true) false (some []) [],Row.mk (some 10) none u2 false (some []) [],Row.mk (some 7) none (tup 2 (nth [u2,AV.bool true])) false (some []) [],Row.mk (some 9) none (tup 2 (nth [u2,AV.bool true])) false (some []) [],Row.mk (some 8) none (ifc 145 u2) false (some []) []] [(0,ref 2 0),(1,ifc 145 u2),(6,AV.bool true)] []) u1 g any u1 g/\(false=true->Wp Tryd.prog R (cK Tryd.prog 100) 3 Rd.no (aD Tryd.prog 100) [1,1,0,0,1,1,0] (aT Tryd.prog R (cK Tryd.prog 100) 3 Rd.no (aD Tryd.prog 100) Q [Kont.seq [1,1,0,1]]) (St.mk [(0,ref 2 0),(1,ifc 145 u2),(13,AV.bool false)] u1 g))/\(false=false->1<=1/\(∀(c_1:Nat),c_1<1->nth [AV.bool false] c_1=ah c 0 1 (fun (x:Nat)=>AV.bool false) c_1)/\Q AEx.normal (St.mk [] [cells false 27 (ai p v (AV.mp 1)),AObj.map es,cells false 1 (nth [AV.bool false]),cells false 0 (nth [])] g)))/\(true=false->Wp Tryd.prog R (cK Tryd.prog 100) 3 Rd.no (aD Tryd.prog 100) [1,1,1] (aT Tryd.prog R (cK Tryd.prog 100) 3 Rd.no (aD Tryd.prog 100) Q []) (St.mk [(0,ref 2 0),(1,ifc 145 u2),(6,AV.bool true)] [cells false 27 (ai p v (AV.mp 1)),AObj.map es,cells false 1 c] g))) (agg 0 (nth []))) ([cells false 27 (ai p v (AV.mp 1)),AObj.map es,cells false 1 c,cells false 0 (nth [])])) ⟨fun _=>⟨?_,fun h=>(nomatch h),fun _=>⟨omg,(fun c hc=>match c,hc with|0,_=>krf ),?_⟩⟩,fun h=>(nomatch h)⟩
 ·exact wm rfl rfl rfl krf
 ·refine(aw (bv 3 _ _ rfl trivial omg trivial ⟨(fun _ _=>(by first|exact trivial|apply bm)),(fun j hj=>match j,hj with|0,_=>trivial ),trivial⟩ krf rfl rfl) (Av _))
theorem yC (R:Res)(p:Prg)(v:Nat->Int)(es:List (Value × AV))(s:Step)(n:Nat)(c:Nat->AV)(hl:p.rules.l.length<1000000)(hr:∀r,r∈p.rules.l->aH r)(h:er p v s=false)(g:R.σ):Does Tryd.prog R 141 [cQ s,.ref 0 0] [.cells false 27 (ai p v (.mp 1)),.map es,.cells false n c] g (.pan (.ifc 145 (.agg 0 (nth [])))) [.cells false 27 (ai p v (.mp 1)),.map es,.cells false n c] g:=
 fP [0,1] 3 (fun R g=>xe R p v es s hl hr h g) rfl rfl rfl ⟨AF (fun j hj=>(cL (f:=ay [0,1] 3) rfl).symm),rfl,trivial⟩ (by exact⟨dcd,trivial⟩) ⟨bu (by exact⟨⟨trivial,trivial⟩,trivial⟩),Av _,trivial⟩ (Aw (by rfl)) ⟨AF (fun j hj=>cL rfl),rfl,Ay _,trivial⟩
theorem yD (R:Res)(p:Prg)(v:Nat->Int)(es:List (Value × AV))(s:Step)(hl:p.rules.l.length<1000000)(hr:∀r,r∈p.rules.l->aH r)(h:er p v s=false)(g:R.σ):Does Tryd.prog R 67 [.ref 0 0,.ifc 149 (cQ s)] [.cells false 27 (ai p v (.mp 1)),.map es] g (.ret (.bool false)) [.cells false 27 (ai p v (.mp 1)),.map es] g:=by
 refine vu (K:=100) (nt:=cK Tryd.prog 67) (rs:=dF Tryd.prog 67) (k0:=2) 5 [4] krf krf krf rfl krf krf dcd dcd ?_
 refine vcR [] (lkL [(0,[0,1,4])]) (fun _=>[]) (fun (Q:AEx->St R.σ->Prop)=>Q AEx.normal (St.mk [(0,ref 0 0),(1,ifc 149 (agg 2 (nth [int i64 s.rule,fz s.atoms.2 1 (List.length s.atoms.l) fun (i x:Nat)=>ab s.atoms.l i]))),(4,ref 2 0)] [cells false 27 (ai p v (AV.mp 1)),AObj.map es,cells false 1 fun (a:Nat)=>AV.bool false] g)) (?_)
 refine vw 3 [.ref 2 0] rfl rfl rfl ?_
 have hD:=fun (R:Res) (n:Nat) (c:Nat->AV) (g:R.σ)=>yC R p v es s n c hl hr h g
 refine vcR [] (lkL [(2,[4])]) (lkL [(2,[(2,ROrc.ipan (ifc 145 (agg 0 (nth []))) [cells false 27 (ai p v (AV.mp 1)),AObj.map es,cells false 1 fun (a:Nat)=>AV.bool false] g)])]) (fun Q=>(fun (u1:List AObj)=>(true=true/\true=true/\Does Tryd.prog R 141 [agg 2 (nth [int i64 s.rule,fz s.atoms.2 1 (List.length s.atoms.l) fun i x=>ab s.atoms.l i]),ref 0 0] u1 g (Oc.pan (ifc 145 (agg 0 (nth [])))) u1 g)/\Q (AEx.pan (ifc 145 (agg 0 (nth [])))) (St.mk [(4,ref 2 0)] u1 g)) ([cells false 27 (ai p v (AV.mp 1)),AObj.map es,cells false 1 fun a=>AV.bool false])) ⟨⟨krf,rfl,(hD _ _ _ _)⟩,?_⟩
 refine⟨_,_,yB R p v es _ g,?_⟩
 refine(aw (bv 2 (AV.bool false) ([0+(TyI.mk (TypeInfo.mk TypeDesc.bool "bool" 1 1 false 1 1 (some (Value.bool false)) true #[]).desc Tryd.prog.types[4].size Tryd.prog.types[4].bytes (cN (ek (Value.bool false))) (dz (TypeInfo.mk TypeDesc.bool "bool" 1 1 false 1 1 (some (Value.bool false)) true #[]).desc) (eV Tryd.prog 4)).size<=1]) krf (by exact⟨dcd,trivial⟩) omg trivial ⟨(fun _ _=>(by first|exact trivial|apply bm)),trivial⟩ krf rfl rfl) (Av _))
theorem yE {s:Step}(h:s.rule ≠ -1):lA s=.ifc 149 (cQ s):=if_neg h
theorem yF (R:Res)(s:Step)(h:s.rule ≠ -1)(hp:List AObj)(g:R.σ):Does Tryd.prog R 68 [cQ s] hp g (.ret (.ifc 149 (cQ s))) hp g:=by
 rw[<-yE h]
 exact xd R s hp g
theorem yG (R:Res)(p:Prg)(v:Nat->Int)(es:List (Value × AV))(s:Step)(n0 n3:Nat)(c0 c3:Nat->AV)(hl:p.rules.l.length<1000000)(hr:∀r,r∈p.rules.l->aH r)(h:er p v s=false)(g:R.σ):Does Tryd.prog R 67 [.ref 1 0,.ifc 149 (cQ s)] [.cells false n0 c0,.cells false 27 (ai p v (.mp 2)),.map es,.cells false n3 c3] g (.ret (.bool false)) [.cells false n0 c0,.cells false 27 (ai p v (.mp 2)),.map es,.cells false n3 c3] g:=
 fP [1,2] 4 (fun R g=>yD R p v es s hl hr h g) rfl rfl rfl ⟨AF (fun j hj=>(cL (f:=ay [1,2] 4) rfl).symm),rfl,trivial⟩ (by exact⟨dcd,trivial⟩) ⟨Av _,bu (by exact⟨⟨trivial,trivial⟩,trivial⟩),trivial⟩ (Av _) ⟨Ay _,AF (fun j hj=>cL rfl),rfl,Ay _,trivial⟩
theorem yH (R:Res)[Tab LT R](p:Prg)(l:KL Step)(hb:aG p=true)(hll:0<l.l.length/\l.l.length<1000000)(h1:(l.l.getD 0 default).rule ≠ -1)(h2:er p (fun _=>3) (l.l.getD 0 default)=false)(g:R.σ):Does Tryd.prog R 23 [au p,aQ l] [] g (.ret (.tup 2 (nth [.int .i64 0,.int .i64 7]))) [] g:=by
 obtain⟨hl,hr,hp,hh,hx⟩:=eQ hb
 have hs:ec p:=g9 hb
 have hp':1<=p.atoms/\p.atoms<=24:=hp
 refine spW (nt:=28) (rs:=[.tmp 4,.tmp 5]) (k0:=0) ?_
 have hc:((if aG p then(0:Int) else 2) != 0)=false:=by
  rw[hb]
  rfl
 refine vcR [[1,0,1,0]] (lkL [(0,[1,2]),(1,[1,2,11]),(3,[1,6]),(4,[6,14,15,16])]) (lkL [(1,[(1,ROrc.pcall (int i64 (if aG p=true then 0 else 2)))]),(3,[(1,ROrc.call (ref 1 0) [cells false 2 (nth [int i64 p.atoms,ad p.rules]),cells false 27 (ai p (fun (x:Nat)=>3) (AV.mp 2)),AObj.map (esF p.rules.l)] g)])]) (fun Q=>(fun (u1:AObj)=>(fun (u2:Int)=>(fun (u3:List AObj)=>2<=2/\(∀(hp:List AObj) (g:R.σ),true=true/\Does Tryd.prog R 16 [au p] hp g (ret (int i64 u2)) hp g)/\((u2 != 0)=true->WpC Tryd.prog R 28 0 23 [1,0,1,0] Q [Kont.seq [1,1]] (St.mk [(1,aQ l),(2,ref 0 0),(11,AV.bool (u2 != 0))] [u1] g))/\((u2 != 0)=false->2<=2/\(true=true/\Does Tryd.prog R 66 [au p] [u1] g (ret (ref 1 0)) u3 g)/\WpC Tryd.prog R 28 0 23 [1,1,1,0,1,0] Q [Kont.blk 0,Kont.seq [1,1,1,1]] (St.mk [(6,ref 1 0),(14,aQ l),(15,int i64 (↑(List.length l.l):Int)),(16,int i64 0)] u3 g))) ([u1,cells false 27 (ai p (fun (x:Nat)=>3) (AV.mp 2)),AObj.map (esF p.rules.l)])) (if aG p=true then 0 else 2)) (cells false 2 (nth [int i64 p.atoms,ad p.rules]))) ⟨omg,(fun _ _=>⟨rfl,(fT _ _ _ _ omg)⟩),fun hcc=>(nomatch (hc.symm.trans hcc)),fun _=>⟨omg,⟨rfl,(n9 _ _ _ omg omg _)⟩,?_⟩⟩
 refine(aZ krf (fun (i:Nat)=>⟨[(6,ref 1 0),(14,aQ l),(15,int i64 (l.l.length:Int)),(16,.int .i64 i)],[.cells false 2 (nth [.int .i64 p.atoms,ad p.rules]),.cells false 27 (ai p (fun _=>3) (.mp 2)),.map (esF p.rules.l)],g⟩) (fun (i:Nat)=>(i=0)) (fun (i:Nat)=>0) 0 (aV ⟨Av _,Av _,Av _,(Aw krf),trivial⟩ rfl rfl) ?_ (fun i hi=>?_))
 ·rfl
 ·subst hi
  have hD:=fun (R:Res) (n0 n3:Nat) (c0 c3:Nat->AV) (g:R.σ)=>yG R p (fun _=>3) (esF p.rules.l) (l.l.getD 0 default) n0 n3 c0 c3 hl hr h2 g
  refine vcR [[1,1,1,0,1,0,0,1,1,0,0,1,1,1]] (lkL [(5,[6,14,15,16,17]),(6,[6,7,8,14,15,16]),(7,[6,7,14,15,16,25]),(8,[4,5])]) (lkL [(6,[(5,ROrc.val (Orc.obj (nth [int i64 (List.getD l.l 0 default).rule,fz (List.getD l.l 0 default).atoms.2 1 (List.length (List.getD l.l 0 default).atoms.l) fun (i x:Nat)=>ab (List.getD l.l 0 default).atoms.l i])))]),(7,[(2,ROrc.pcall (ifc 149 (cQ (List.getD l.l 0 default)))),(3,ROrc.kcall (AV.bool false))])]) (fun Q=>(fun (u1:List AV)=>(fun (u2:List AObj)=>(fun (u3:Int)=>(fun (u4:Int)=>(decide (u4<u3)=true->(0<=u4/\u4<u3)/\2<=2/\2<=2/\(∀(c:Nat),c<2->nth u1 c=ah (nth [int i64 0,fz Fz.nil 0 0 fun x x_1=>any]) 0 2 (List.brecOn (motive:=fun (x:List AV)=>Nat->AV) u1 nth._f) c)/\2<=2/\(∀(hp:List AObj) (g:R.σ),true=true/\Does Tryd.prog R 68 [agg 2 (nth u1)] hp g (ret (ifc 149 (agg 2 (nth u1)))) hp g)/\(true=true/\Does Tryd.prog R 67 [ref 1 0,ifc 149 (agg 2 (nth u1))] u2 g (ret (AV.bool false)) u2 g)/\(true=true->Q AEx.ret (St.mk [(4,int i64 u4),(5,int i64 7)] u2 g))/\(true=false->WpC Tryd.prog R 28 0 23 [1,1,1,0,1,0,0,1,1,0,0,1,1,1] Q [Kont.blk 1,Kont.seq [1,1,1,0,1,0,0,1,1,1]] (St.mk [(6,ref 1 0),(7,int i64 u4),(14,aQ l),(15,int i64 u3),(16,int i64 u4),(25,AV.bool true)] u2 g)))/\(decide (u4<u3)=false->Q (AEx.exit 0) (St.mk [(6,ref 1 0),(14,aQ l),(15,int i64 u3),(16,int i64 u4),(17,AV.bool (decide (u4<u3)))] [cells false 2 (nth [int i64 p.atoms,ad p.rules]),cells false 27 (ai p (fun (x:Nat)=>3) (AV.mp 2)),AObj.map (esF p.rules.l)] g))) ((↑0:Int))) ((↑(List.length l.l):Int))) ([cells false 2 (nth [int i64 p.atoms,ad p.rules]),cells false 27 (ai p (fun (x:Nat)=>3) (AV.mp 2)),AObj.map (esF p.rules.l),cells false 2 (nth u1)])) ([int i64 (List.getD l.l 0 default).rule,fz (List.getD l.l 0 default).atoms.2 1 (List.length (List.getD l.l 0 default).atoms.l) fun i x=>ab (List.getD l.l 0 default).atoms.l i])) ⟨fun c1=>have c1:(↑0:Int)<(↑(List.length l.l):Int):=(of_decide_eq_true c1);⟨omg,omg,omg,(fun c hc=>match c,hc with|0,_=>krf|1,_=>krf ),omg,(fun _ _=>⟨rfl,(yF _ _ omg _ _)⟩),⟨rfl,(hD _ _ _ _ _ _)⟩,fun _=>?_,fun h=>(nomatch h)⟩,fun c1=>have c1:¬(↑0:Int)<(↑(List.length l.l):Int):=(of_decide_eq_false c1);?_⟩
  ·refine⟨_,AH _,(aw (bt _ _ rfl trivial ⟨⟨trivial,trivial⟩,trivial⟩ rfl) (Av _))⟩
  ·exfalso;omega
def cE (v:List Int)(l:Lit):Bool:=if l.neg then v.getD l.atom.toNat 0==1 else v.getD l.atom.toNat 0==2
def ca (v:List Int)(l:Lit):Bool:=if l.neg then v.getD l.atom.toNat 0==2 else v.getD l.atom.toNat 0==1
def dW (v:List Int)(r:Rule):Bool:= !r.body.l.any (fun l=> !cE v l)
theorem sb (R:Res)(v:List Int)(l:Lit)(h:0<=l.atom/\l.atom<v.length)(g:R.σ):Does Tryd.prog R 116 [.ow true 0 v.length 1,bw l] [.cells false (v.length*1) (ab v)] g (.ret (.bool (cE v l))) [.cells false (v.length*1) (ab v)] g:=by
 have e:(if l.neg then v.getD l.atom.toNat 0==1 else v.getD l.atom.toNat 0==2)=cE v l:=rfl
 refine spW (nt:=19) (rs:=[.tmp 4]) (k0:=1) ?_
 cases hn:l.neg with
 |true=>
  have e:cE v l=(v.getD l.atom.toNat 0==1):=by unfold cE;rw[hn];rfl
  rw[e]
  refine vcR [[1,0,1,1]] (lkL [(0,[0,3]),(1,[0,3,6]),(2,[4])]) (fun _=>[]) (fun Q=>(fun (u1:List AObj)=>2<=2/\(l.neg=true->1<=2/\(0<=l.atom/\l.atom<(↑(List.length v):Int))/\Int.toNat l.atom+1<=List.length v*1/\Q AEx.ret (St.mk [(4,AV.bool (List.getD v (Int.toNat l.atom) 0==1))] u1 g))/\(l.neg=false->WpC Tryd.prog R 19 1 116 [1,0,1,1] Q [Kont.seq [1,1]] (St.mk [(0,ow true 0 (List.length v) 1),(3,ref 1 0),(6,AV.bool l.neg)] u1 g))) ([cells false (List.length v*1) fun a=>ab v a,cells false 2 (nth [int i64 l.atom,AV.bool l.neg])])) ⟨omg,fun _=>⟨omg,omg,omg,?_⟩,fun hcc=>(nomatch (hn.symm.trans hcc))⟩
  refine(aw (bv 1 _ _ rfl trivial omg trivial ⟨(fun _ _=>trivial),trivial⟩ krf rfl rfl) (Av _))
 |false=>
  have e:cE v l=(v.getD l.atom.toNat 0==2):=by unfold cE;rw[hn];rfl
  rw[e]
  refine vcR [[1,0,1,0]] (lkL [(0,[0,3]),(1,[0,3,6]),(3,[4])]) (fun _=>[]) (fun Q=>(fun (u1:List AObj)=>2<=2/\(l.neg=true->WpC Tryd.prog R 19 1 116 [1,0,1,0] Q [Kont.seq [1,1]] (St.mk [(0,ow true 0 (List.length v) 1),(3,ref 1 0),(6,AV.bool l.neg)] u1 g))/\(l.neg=false->1<=2/\(0<=l.atom/\l.atom<(↑(List.length v):Int))/\Int.toNat l.atom+1<=List.length v*1/\Q AEx.ret (St.mk [(4,AV.bool (List.getD v (Int.toNat l.atom) 0==2))] u1 g))) ([cells false (List.length v*1) fun a=>ab v a,cells false 2 (nth [int i64 l.atom,AV.bool l.neg])])) ⟨omg,fun hcc=>(nomatch (hn.symm.trans hcc)),fun _=>⟨omg,omg,omg,?_⟩⟩
  refine(aw (bv 1 _ _ rfl trivial omg trivial ⟨(fun _ _=>trivial),trivial⟩ krf rfl rfl) (Av _))
theorem sc (R:Res)(v:List Int)(l:Lit)(h:0<=l.atom/\l.atom<v.length)(g:R.σ):Does Tryd.prog R 123 [.ow true 0 v.length 1,bw l] [.cells false (v.length*1) (ab v)] g (.ret (.bool (ca v l))) [.cells false (v.length*1) (ab v)] g:=by
 refine spW (nt:=19) (rs:=[.tmp 4]) (k0:=1) ?_
 cases hn:l.neg with
 |true=>
  have e:ca v l=(v.getD l.atom.toNat 0==2):=by unfold ca;rw[hn];rfl
  rw[e]
  refine vcR [[1,0,1,1]] (lkL [(0,[0,3]),(1,[0,3,6]),(2,[4])]) (fun _=>[]) (fun Q=>(fun (u1:List AObj)=>2<=2/\(l.neg=true->1<=2/\(0<=l.atom/\l.atom<(↑(List.length v):Int))/\Int.toNat l.atom+1<=List.length v*1/\Q AEx.ret (St.mk [(4,AV.bool (List.getD v (Int.toNat l.atom) 0==2))] u1 g))/\(l.neg=false->WpC Tryd.prog R 19 1 123 [1,0,1,1] Q [Kont.seq [1,1]] (St.mk [(0,ow true 0 (List.length v) 1),(3,ref 1 0),(6,AV.bool l.neg)] u1 g))) ([cells false (List.length v*1) fun a=>ab v a,cells false 2 (nth [int i64 l.atom,AV.bool l.neg])])) ⟨omg,fun _=>⟨omg,omg,omg,?_⟩,fun hcc=>(nomatch (hn.symm.trans hcc))⟩
  refine(aw (bv 1 _ _ rfl trivial omg trivial ⟨(fun _ _=>trivial),trivial⟩ krf rfl rfl) (Av _))
 |false=>
  have e:ca v l=(v.getD l.atom.toNat 0==1):=by unfold ca;rw[hn];rfl
  rw[e]
  refine vcR [[1,0,1,0]] (lkL [(0,[0,3]),(1,[0,3,6]),(3,[4])]) (fun _=>[]) (fun Q=>(fun (u1:List AObj)=>2<=2/\(l.neg=true->WpC Tryd.prog R 19 1 123 [1,0,1,0] Q [Kont.seq [1,1]] (St.mk [(0,ow true 0 (List.length v) 1),(3,ref 1 0),(6,AV.bool l.neg)] u1 g))/\(l.neg=false->1<=2/\(0<=l.atom/\l.atom<(↑(List.length v):Int))/\Int.toNat l.atom+1<=List.length v*1/\Q AEx.ret (St.mk [(4,AV.bool (List.getD v (Int.toNat l.atom) 0==1))] u1 g))) ([cells false (List.length v*1) fun a=>ab v a,cells false 2 (nth [int i64 l.atom,AV.bool l.neg])])) ⟨omg,fun hcc=>(nomatch (hn.symm.trans hcc)),fun _=>⟨omg,omg,omg,?_⟩⟩
  refine(aw (bv 1 _ _ rfl trivial omg trivial ⟨(fun _ _=>trivial),trivial⟩ krf rfl rfl) (Av _))
def j5 (n:Nat)(r:Rule):Prop:=r.body.l.length<1000000/\∀l,l∈r.body.l->0<=l.atom/\l.atom<n
theorem sd {U:Type}{l:List U}{f:U->Bool}{d:U}{i:Nat}(hi:i<l.length)(h:f (l.getD i d)=true):l.any f=true:=
 List.any_eq_true.2 ⟨_,(by rw[List.getD_eq_getElem?_getD,List.getElem?_eq_getElem hi];exact List.getElem_mem hi),h⟩
theorem se {U:Type}{l:List U}{f:U->Bool}{d:U}{i:Nat}(hi:i<l.length)(h1:(l.take i).any f=false)(h2:f (l.getD i d)=false):(l.take (i+1)).any f=false:=by
 rw[List.take_add_one,List.any_append,h1,List.getElem?_eq_getElem hi]
 rw[List.getD_eq_getElem?_getD,List.getElem?_eq_getElem hi] at h2
 show(false||(List.any [l[i]] f))=false
 simpa using h2
theorem yI (R:Res)(v:List Int)(r:Rule)(h:j5 v.length r)(g:R.σ):Does Tryd.prog R 97 [.ow true 0 v.length 1,bC r] [.cells false (v.length*1) (ab v)] g (.ret (.bool (dW v r))) [.cells false (v.length*1) (ab v)] g:=by
 have h1:=h.1
 have hb:=h.2
 refine spW (nt:=21) (rs:=[.tmp 4]) (k0:=1) ?_
 refine vcR [] (lkL [(0,[0,3]),(1,[0,3,5])]) (fun _=>[]) (fun (Q:AEx->St R.σ->Prop)=>WpC Tryd.prog R 21 1 97 [1,0,1,0] Q [Kont.blk 0,Kont.seq [1,1]] (St.mk [(0,ow true 0 (List.length v) 1),(3,ref 1 0),(5,int i64 0)] [cells false (List.length v*1) fun (a:Nat)=>ab v a,cells false 2 (nth [int i64 r.head,ao r.body])] g)) (?_)
 refine(aZ krf (fun (i:Nat)=>⟨[(0,ow true 0 (v.length) 1),(3,ref 1 0),(5,.int .i64 i)],[cells false (v.length*1) fun (a:Nat)=>ab v a,cells false 2 (nth [int i64 r.head,ao r.body])],g⟩) (fun (i:Nat)=>(i<=r.body.l.length/\(r.body.l.take i).any (fun l=> !cE v l)=false)) (fun (i:Nat)=>(r.body.l.length-i)) 0 (aV ⟨Av _,Av _,(Aw krf),trivial⟩ rfl rfl) ?_ (fun i hi=>?_))
 ·exact⟨Nat.zero_le _,rfl⟩
 ·obtain⟨h2,h3⟩:=hi
  rcases Nat.lt_or_ge i r.body.l.length with hlt|hge
  ·have hm:=hb _ (bZ _ default hlt)
   refine vcR [] (lkL [(2,[0,3,5,10]),(4,[0,3,5,20]),(5,[4]),(3,[0,3,5])]) (lkL [(4,[(6,ROrc.kcall (AV.bool (cE v (List.getD r.body.l i default))))])]) (fun Q=>(fun (u1:List AObj)=>(fun (u2:Int)=>(fun (u3:Int)=>(fun (u4:Lit)=>(fun (u5:AV)=>2<=2/\(decide (u3<u2)=true->2<=2/\(0<=u3/\u3<u2)/\2<=2/\(true=true/\Does Tryd.prog R 116 [u5,bw u4] u1 g (ret (AV.bool (cE v u4))) u1 g)/\((!cE v u4)=true->Q AEx.ret (St.mk [(4,AV.bool false)] u1 g))/\((!cE v u4)=false->(-9223372036854775808<=u3+1/\u3+1<=9223372036854775807)/\Q AEx.normal (St.mk [(0,u5),(3,ref 1 0),(5,int i64 (u3+1))] u1 g)))/\(decide (u3<u2)=false->Q (AEx.exit 0) (St.mk [(0,u5),(3,ref 1 0),(5,int i64 u3),(10,AV.bool (decide (u3<u2)))] u1 g))) (ow true 0 (List.length v) 1)) (List.getD r.body.l i default)) ((↑i:Int))) ((↑(List.length r.body.l):Int))) ([cells false (List.length v*1) fun a=>ab v a,cells false 2 (nth [int i64 r.head,ao r.body])])) ⟨omg,fun c1=>have c1:(↑i:Int)<(↑(List.length r.body.l):Int):=(of_decide_eq_true c1);⟨omg,omg,omg,⟨rfl,(doS [0] 2 (fun R g=>sb R (v) (List.getD r.body.l i default) omg g))⟩,fun c2=>have c2:cE v (List.getD r.body.l i default)=false:=((Bool.not_eq_true' _).mp c2);?_,fun c2=>have c2:cE v (List.getD r.body.l i default)=true:=((Bool.not_eq_false' _).mp c2);⟨omg,?_⟩⟩,fun c1=>have c1:¬(↑i:Int)<(↑(List.length r.body.l):Int):=(of_decide_eq_false c1);?_⟩
   ·have hf:dW v r=false:=by
     unfold dW
     rw[sd (d:=default) hlt (by rw[c2];rfl)]
     rfl
    rw[hf]
    refine⟨_,AH _,(aw (bv 1 _ _ rfl trivial omg trivial ⟨(fun _ _=>trivial),trivial⟩ krf rfl rfl) (Av _))⟩
   ·refine(aL (i+1) (aV ⟨Av _,Av _,(Aw krf),trivial⟩ rfl rfl) ?_ ?_)
    ·exact⟨omg,se (d:=default) hlt h3 (by rw[c2];rfl)⟩
    ·omega
   ·exfalso;omega
  ·have hie:i=r.body.l.length:=by omega
   subst hie
   rw[List.take_length] at h3
   have ht:dW v r=true:=by
    unfold dW
    rw[h3]
    rfl
   rw[ht]
   refine vcR [] (lkL [(2,[0,3,5,10]),(4,[0,3,5,20]),(5,[4]),(3,[0,3,5])]) (lkL [(4,[(6,ROrc.kcall (AV.bool (cE v (List.getD r.body.l (List.length r.body.l) default))))])]) (fun Q=>(fun (u1:Int)=>(fun (u2:List AObj)=>(fun (u3:Lit)=>(fun (u4:AV)=>2<=2/\(decide (u1<u1)=true->2<=2/\(0<=u1/\u1<u1)/\2<=2/\(true=true/\Does Tryd.prog R 116 [u4,bw u3] u2 g (ret (AV.bool (cE v u3))) u2 g)/\((!cE v u3)=true->Q AEx.ret (St.mk [(4,AV.bool false)] u2 g))/\((!cE v u3)=false->(-9223372036854775808<=u1+1/\u1+1<=9223372036854775807)/\Q AEx.normal (St.mk [(0,u4),(3,ref 1 0),(5,int i64 (u1+1))] u2 g)))/\(decide (u1<u1)=false->Q (AEx.exit 0) (St.mk [(0,u4),(3,ref 1 0),(5,int i64 u1),(10,AV.bool (decide (u1<u1)))] u2 g))) (ow true 0 (List.length v) 1)) (List.getD r.body.l (List.length r.body.l) default)) ([cells false (List.length v*1) fun a=>ab v a,cells false 2 (nth [int i64 r.head,ao r.body])])) ((↑(List.length r.body.l):Int))) ⟨omg,fun c1=>have c1:(↑(List.length r.body.l):Int)<(↑(List.length r.body.l):Int):=(of_decide_eq_true c1);⟨omg,omg,omg,⟨rfl,(doS [0] 2 (fun R g=>sb R (v) (List.getD r.body.l (List.length r.body.l) default) (by simp at * <;> omega) g))⟩,fun c2=>have c2:cE v (List.getD r.body.l (List.length r.body.l) default)=false:=((Bool.not_eq_true' _).mp c2);?_,fun c2=>have c2:cE v (List.getD r.body.l (List.length r.body.l) default)=true:=((Bool.not_eq_false' _).mp c2);⟨omg,?_⟩⟩,fun c1=>have c1:¬(↑(List.length r.body.l):Int)<(↑(List.length r.body.l):Int):=(of_decide_eq_false c1);?_⟩
   all_goals first|(exfalso;omega)|skip
   refine⟨_,AH _,vcR [] (lkL [(6,[4])]) (fun _=>[]) (fun (Q:AEx->St R.σ->Prop)=>Q AEx.ret (St.mk [(4,AV.bool true)] [cells false (List.length v*1) fun (a:Nat)=>ab v a,cells false 2 (nth [int i64 r.head,ao r.body])] g)) (?_)⟩
   refine(aw (bv 1 _ _ rfl trivial omg trivial ⟨(fun _ _=>trivial),trivial⟩ krf rfl rfl) (Av _))
def ap (l:List Bool):Nat->AV:=fun j=>.bool (l.getD j false)
theorem nu {k:Nat}(l:List Bool)(j:Nat):Below k (ap l j):=trivial
theorem qP {f:Nat->Nat}(h:True){l:List Bool}{j:Nat}:aN f (ap l j)=ap l j:=rfl
def iY (v:List Int)(s:List Bool)(l:Lit):Bool:=ca v l||(!l.neg&&s.getD l.atom.toNat false)
def dK (v:List Int)(s:List Bool)(r:Rule):Bool:= !r.body.l.any (iY v s)
theorem yJ (R:Res)(v:List Int)(s:List Bool)(r:Rule)(hvs:s.length=v.length)(h:j5 v.length r)(g:R.σ):Does Tryd.prog R 117 [.ow true 0 v.length 1,bC r,.ow true 1 s.length 1] [.cells false (v.length*1) (ab v),.cells false (s.length*1) (ap s)] g (.ret (.bool (dK v s r))) [.cells false (v.length*1) (ab v),.cells false (s.length*1) (ap s)] g:=by
 have h1:=h.1
 have hb:=h.2
 refine spW (nt:=36) (rs:=[.tmp 6]) (k0:=2) ?_
 refine vcR [] (lkL [(0,[0,2,4]),(1,[0,2,4,7])]) (fun _=>[]) (fun (Q:AEx->St R.σ->Prop)=>WpC Tryd.prog R 36 2 117 [1,0,1,0] Q [Kont.blk 0,Kont.seq [1,1]] (St.mk [(0,ow true 0 (List.length v) 1),(2,ow true 1 (List.length s) 1),(4,ref 2 0),(7,int i64 0)] [cells false (List.length v*1) fun (a:Nat)=>ab v a,cells false (List.length s*1) fun (a:Nat)=>ap s a,cells false 2 (nth [int i64 r.head,ao r.body])] g)) (?_)
 refine(aZ krf (fun (i:Nat)=>⟨[(0,ow true 0 (v.length) 1),(2,ow true 1 (s.length) 1),(4,ref 2 0),(7,.int .i64 i)],[cells false (v.length*1) fun (a:Nat)=>ab v a,cells false (s.length*1) fun (a:Nat)=>ap s a,cells false 2 (nth [int i64 r.head,ao r.body])],g⟩) (fun (i:Nat)=>(i<=r.body.l.length/\(r.body.l.take i).any (iY v s)=false)) (fun (i:Nat)=>(r.body.l.length-i)) 0 (aV ⟨Av _,Av _,Av _,(Aw krf),trivial⟩ rfl rfl) ?_ (fun i hi=>?_))
 ·exact⟨Nat.zero_le _,rfl⟩
 ·obtain⟨h2,h3⟩:=hi
  rcases Nat.lt_or_ge i r.body.l.length with hlt|hge
  ·have hm:=hb _ (bZ _ default hlt)
   refine vcR [] (lkL [(2,[0,2,4,7,13]),(4,[0,2,4,7,8]),(5,[0,2,4,7,35]),(6,[6]),(3,[0,2,4,7])]) (lkL [(4,[(6,ROrc.val (Orc.obj (nth [int i64 (List.getD r.body.l i default).atom,AV.bool (List.getD r.body.l i default).neg])))]),(5,[(2,ROrc.kcall (AV.bool (ca v (List.getD r.body.l i default))))])]) (fun Q=>(fun (u1:List AObj)=>(fun (u2:Lit)=>(fun (u3:Int)=>(fun (u4:Int)=>(fun (u5:Bool)=>(fun (u6:AV)=>2<=2/\(decide (u4<u3)=true->2<=2/\(0<=u4/\u4<u3)/\2<=2/\2<=2/\(∀(c:Nat),c<2->nth [int i64 u2.atom,AV.bool u2.neg] c=ah (nth [int i64 0,AV.bool false]) 0 2 (List.brecOn (motive:=fun (x:List AV)=>Nat->AV) [int i64 u2.atom,AV.bool u2.neg] nth._f) c)/\2<=2/\(true=true/\Does Tryd.prog R 123 [u6,bw u2] u1 g (ret (AV.bool (ca v u2))) u1 g)/\((!ca v u2)=true->2<=2)/\((!ca v u2 && !u2.neg)=true->1<=2)/\((!ca v u2 && !u2.neg)=true->0<=u2.atom/\u2.atom<(↑(List.length s):Int))/\((!ca v u2 && !u2.neg)=true->Int.toNat u2.atom+1<=List.length s*1)/\(u5=true->Q AEx.ret (St.mk [(6,AV.bool false)] u1 g))/\(u5=false->(-9223372036854775808<=u4+1/\u4+1<=9223372036854775807)/\Q AEx.normal (St.mk [(0,u6),(2,ow true 1 (List.length s) 1),(4,ref 2 0),(7,int i64 (u4+1))] u1 g)))/\(decide (u4<u3)=false->Q (AEx.exit 0) (St.mk [(0,u6),(2,ow true 1 (List.length s) 1),(4,ref 2 0),(7,int i64 u4),(13,AV.bool (decide (u4<u3)))] [cells false (List.length v*1) fun a=>ab v a,cells false (List.length s*1) fun a=>ap s a,cells false 2 (nth [int i64 r.head,ao r.body])] g))) (ow true 0 (List.length v) 1)) (bif ca v u2 then true else bif !u2.neg then List.getD s (Int.toNat u2.atom) false else false)) ((↑i:Int))) ((↑(List.length r.body.l):Int))) (List.getD r.body.l i default)) ([cells false (List.length v*1) fun a=>ab v a,cells false (List.length s*1) fun a=>ap s a,cells false 2 (nth [int i64 r.head,ao r.body]),cells false 2 (nth [int i64 (List.getD r.body.l i default).atom,AV.bool (List.getD r.body.l i default).neg])])) ⟨omg,fun c1=>have c1:(↑i:Int)<(↑(List.length r.body.l):Int):=(of_decide_eq_true c1);⟨omg,omg,omg,omg,(fun c hc=>match c,hc with|0,_=>krf|1,_=>krf ),omg,⟨rfl,(doS [0] 4 (fun R g=>sc R (v) (List.getD r.body.l i default) omg g))⟩,omg,omg,omg,omg,fun c2=>have c2:ca v (List.getD r.body.l i default)=true∨(List.getD r.body.l i default).neg=false/\List.getD s (Int.toNat (List.getD r.body.l i default).atom) false=true:=((eI c2).imp (fun h=>h) (fun h=>⟨((Bool.not_eq_true' _).mp (cq h).1),(cq h).2⟩));?_,fun c2=>have c2:ca v (List.getD r.body.l i default)=false/\((List.getD r.body.l i default).neg=true∨List.getD s (Int.toNat (List.getD r.body.l i default).atom) false=false):=⟨(cc c2).1,((eH (cc c2).2).imp (fun h=>((Bool.not_eq_false' _).mp h)) (fun h=>h))⟩;⟨omg,?_⟩⟩,fun c1=>have c1:¬(↑i:Int)<(↑(List.length r.body.l):Int):=(of_decide_eq_false c1);?_⟩
   ·have hf:dK v s r=false:=by
     unfold dK
     rw[sd (d:=default) hlt (by unfold iY;simpa using c2)]
     rfl
    rw[hf]
    refine⟨_,AH _,(aw (bv 2 _ _ rfl trivial omg trivial ⟨(fun _ _=>trivial),(fun _ _=>trivial),trivial⟩ krf rfl rfl) (Av _))⟩
   ·refine(aL (i+1) (toS [0,1,2] 4 (hob:=⟨?_,?_,⟨rfl,Nat.le_refl _,fun j hj=>match j,hj with|0,_=>(Av _)|1,_=>(Av _) ⟩,trivial⟩)) ?_ ?_)
    ·exact⟨rfl,Nat.le_refl _,fun j _=>Aw rfl⟩
    ·exact⟨rfl,Nat.le_refl _,fun j _=>Aw rfl⟩
    ·exact⟨omg,se (d:=default) hlt h3 (by
      unfold iY
      rw[c2.1]
      rcases c2.2 with b|b <;> rw[b] <;> simp)⟩
    ·omega
   ·exfalso;omega
  ·have hie:i=r.body.l.length:=by omega
   subst hie
   rw[List.take_length] at h3
   have ht:dK v s r=true:=by
    unfold dK
    rw[h3]
    rfl
   rw[ht]
   refine vcR [] (lkL [(2,[0,2,4,7,13]),(4,[0,2,4,7,8]),(5,[0,2,4,7,35]),(6,[6]),(3,[0,2,4,7])]) (lkL [(4,[(6,ROrc.val (Orc.obj (nth [int i64 (List.getD r.body.l (List.length r.body.l) default).atom,AV.bool (List.getD r.body.l (List.length r.body.l) default).neg])))]),(5,[(2,ROrc.kcall (AV.bool (ca v (List.getD r.body.l (List.length r.body.l) default))))])]) (fun Q=>(fun (u1:Lit)=>(fun (u2:List AObj)=>(fun (u3:Int)=>(fun (u4:Bool)=>(fun (u5:AV)=>2<=2/\(decide (u3<u3)=true->2<=2/\(0<=u3/\u3<u3)/\2<=2/\2<=2/\(∀(c:Nat),c<2->nth [int i64 u1.atom,AV.bool u1.neg] c=ah (nth [int i64 0,AV.bool false]) 0 2 (List.brecOn (motive:=fun (x:List AV)=>Nat->AV) [int i64 u1.atom,AV.bool u1.neg] nth._f) c)/\2<=2/\(true=true/\Does Tryd.prog R 123 [u5,bw u1] u2 g (ret (AV.bool (ca v u1))) u2 g)/\((!ca v u1)=true->2<=2)/\((!ca v u1 && !u1.neg)=true->1<=2)/\((!ca v u1 && !u1.neg)=true->0<=u1.atom/\u1.atom<(↑(List.length s):Int))/\((!ca v u1 && !u1.neg)=true->Int.toNat u1.atom+1<=List.length s*1)/\(u4=true->Q AEx.ret (St.mk [(6,AV.bool false)] u2 g))/\(u4=false->(-9223372036854775808<=u3+1/\u3+1<=9223372036854775807)/\Q AEx.normal (St.mk [(0,u5),(2,ow true 1 (List.length s) 1),(4,ref 2 0),(7,int i64 (u3+1))] u2 g)))/\(decide (u3<u3)=false->Q (AEx.exit 0) (St.mk [(0,u5),(2,ow true 1 (List.length s) 1),(4,ref 2 0),(7,int i64 u3),(13,AV.bool (decide (u3<u3)))] [cells false (List.length v*1) fun a=>ab v a,cells false (List.length s*1) fun a=>ap s a,cells false 2 (nth [int i64 r.head,ao r.body])] g))) (ow true 0 (List.length v) 1)) (bif ca v u1 then true else bif !u1.neg then List.getD s (Int.toNat u1.atom) false else false)) ((↑(List.length r.body.l):Int))) ([cells false (List.length v*1) fun a=>ab v a,cells false (List.length s*1) fun a=>ap s a,cells false 2 (nth [int i64 r.head,ao r.body]),cells false 2 (nth [int i64 u1.atom,AV.bool u1.neg])])) (List.getD r.body.l (List.length r.body.l) default)) ⟨omg,fun c1=>have c1:(↑(List.length r.body.l):Int)<(↑(List.length r.body.l):Int):=(of_decide_eq_true c1);⟨omg,omg,omg,omg,(fun c hc=>match c,hc with|0,_=>krf|1,_=>krf ),omg,⟨rfl,(doS [0] 4 (fun R g=>sc R (v) (List.getD r.body.l (List.length r.body.l) default) (by simp at * <;> omega) g))⟩,omg,omg,omg,omg,fun c2=>have c2:ca v (List.getD r.body.l (List.length r.body.l) default)=true∨(List.getD r.body.l (List.length r.body.l) default).neg=false/\List.getD s (Int.toNat (List.getD r.body.l (List.length r.body.l) default).atom) false=true:=((eI c2).imp (fun h=>h) (fun h=>⟨((Bool.not_eq_true' _).mp (cq h).1),(cq h).2⟩));?_,fun c2=>have c2:ca v (List.getD r.body.l (List.length r.body.l) default)=false/\((List.getD r.body.l (List.length r.body.l) default).neg=true∨List.getD s (Int.toNat (List.getD r.body.l (List.length r.body.l) default).atom) false=false):=⟨(cc c2).1,((eH (cc c2).2).imp (fun h=>((Bool.not_eq_false' _).mp h)) (fun h=>h))⟩;⟨omg,?_⟩⟩,fun c1=>have c1:¬(↑(List.length r.body.l):Int)<(↑(List.length r.body.l):Int):=(of_decide_eq_false c1);?_⟩
   all_goals first|(exfalso;omega)|skip
   refine⟨_,AH _,vcR [] (lkL [(7,[6])]) (fun _=>[]) (fun (Q:AEx->St R.σ->Prop)=>Q AEx.ret (St.mk [(6,AV.bool true)] [cells false (List.length v*1) fun (a:Nat)=>ab v a,cells false (List.length s*1) fun (a:Nat)=>ap s a,cells false 2 (nth [int i64 r.head,ao r.body])] g)) (?_)⟩
   refine(aw (bv 2 _ _ rfl trivial omg trivial ⟨(fun _ _=>trivial),(fun _ _=>trivial),trivial⟩ krf rfl rfl) (Av _))
def cu (n:Nat)(r:Rule):Prop:=j5 n r/\0<=r.head/\r.head<n
def upholdsR (v:List Int)(s:List Bool)(r:Rule):Bool:=s.getD r.head.toNat false&&dK v s r
def aA (s:List Bool)(n:Nat):List Int:=((List.range n).filter fun k=>s.getD k false).map fun (k:Nat)=>(k:Int)
theorem ox {s:List Bool}{n:Nat}:aA s (n+1)=if s.getD n false then aA s n++[(n:Int)] else aA s n:=by
 unfold aA
 rw[List.range_succ,List.filter_append,List.map_append,List.filter_cons]
 split
 ·rfl
 ·exact List.append_nil _
theorem j6 {s:List Bool}{n:Nat}:(aA s n).length<=n:=by
 unfold aA
 rw[List.length_map]
 exact Nat.le_trans (List.length_filter_le _ _) (Nat.le_of_eq List.length_range)
theorem yK (R:Res)(s:List Bool)(hl:s.length<1000000)(g:R.σ):Does Tryd.prog R 85 [.ow true 0 s.length 1] [.cells false (s.length*1) (ap s)] g (.ret (.ow true 1 (aA s s.length).length 1)) [.cells false (s.length*1) (ap s),.cells false ((aA s s.length).length*1) (ab (aA s s.length))] g:=by
 have hroom:ax=140737488355328:=rfl
 refine spW (nt:=20) (rs:=[.tmp 2]) (k0:=1) ?_
 refine vcR [] (lkL [(0,[0]),(1,[0,3]),(2,[0,3,4])]) (fun _=>[]) (fun (Q:AEx->St R.σ->Prop)=>WpC Tryd.prog R 20 1 85 [1,1,0,1,0] Q [Kont.blk 0,Kont.seq [1,1,1]] (St.mk [(0,ow true 0 (List.length s) 1),(3,fz Fz.nil 0 0 fun (x x_1:Nat)=>any),(4,int i64 0)] [cells false (List.length s*1) fun (a:Nat)=>ap s a] g)) (?_)
 refine br (eO (fun _=>.any) 1) ?_
 refine(aZ krf (fun (x:Nat × Nat)=>⟨[(0,ow true 0 (s.length) 1),(3,.ow true 1 x.2 1),(4,.int .i64 x.1)],[.cells false (s.length*1) (ap s),.cells false (x.2*1) (ab (aA s x.1))],g⟩) (fun (x:Nat × Nat)=>(x.1<=s.length/\x.2=(aA s x.1).length)) (fun (x:Nat × Nat)=>(s.length-x.1)) ((0,0):Nat × Nat) (toL (h1:=⟨Av _,Le.nil_ow,(Aw krf),trivial⟩) (h2:=⟨Ax,⟨rfl,Nat.le_refl _,fun j hj=>absurd hj (Nat.not_lt_zero j)⟩,trivial⟩)) ?_ (fun x hi=>?_))
 ·exact⟨Nat.zero_le _,rfl⟩
 ·obtain⟨i,m⟩:=x
  obtain⟨hi,hm⟩:=hi
  simp only at hi hm
  have hml:=j6 (s:=s) (n:=i)
  have hns:=ox (s:=s) (n:=i)
  rcases Nat.lt_or_ge i s.length with hi'|hi'
  ·refine vcR [] (lkL [(3,[0,3,4,8]),(5,[0,3,4,14]),(6,[0,3,4]),(4,[0,3,4])]) (lkL [(6,[(3,ROrc.val (Orc.obj (ab (aA s i++[(↑i:Int)]))))])]) (fun Q=>(fun (u1:Int)=>(fun (u2:Int)=>(fun (u3:AObj)=>(fun (u4:Nat × AV)=>(fun (u5:List AObj)=>(decide (u1<u2)=true->(0<=u1/\u1<u2)/\i+1<=List.length s*1/\(List.getD s i false=true->0<1/\(m+1)*8<=ax/\m+1<=ax/\1<=1/\m*1<=m*1/\(∀(c:Nat),c<(m+1)*1->ab (aA s i++[u1]) c=aS 1 m (fun (i_1 j:Nat)=>ab (aA s i) (i_1*1+j)) (fun (i j:Nat)=>ah (fun (j:Nat)=>int i64 0) 0 1 (fun (x:Nat)=>int i64 u1) (0+i*1+j)) c)/\(-9223372036854775808<=u1+1/\u1+1<=9223372036854775807)/\Q AEx.normal (St.mk [u4,(3,ow true 3 (m+1) 1),(4,int i64 (u1+1))] [u3,dead,cells false 1 (ah (fun (j:Nat)=>int i64 0) 0 1 fun x=>int i64 u1),cells false ((m+1)*1) fun a=>ab (aA s i++[u1]) a] g))/\(List.getD s i false=false->(-9223372036854775808<=u1+1/\u1+1<=9223372036854775807)/\Q AEx.normal (St.mk [u4,(3,ow true 1 m 1),(4,int i64 (u1+1))] u5 g)))/\(decide (u1<u2)=false->Q (AEx.exit 0) (St.mk [u4,(3,ow true 1 m 1),(4,int i64 u1),(8,AV.bool (decide (u1<u2)))] u5 g))) ([u3,cells false (m*1) fun a=>ab (aA s i) a])) ((0,ow true 0 (List.length s) 1))) (cells false (List.length s*1) fun a=>ap s a)) ((↑(List.length s):Int))) ((↑i:Int))) ⟨fun c1=>have c1:(↑i:Int)<(↑(List.length s):Int):=(of_decide_eq_true c1);⟨omg,omg,fun c2=>⟨omg,omg,omg,omg,omg,?_,omg,?_⟩,fun c2=>⟨omg,?_⟩⟩,fun c1=>have c1:¬(↑i:Int)<(↑(List.length s):Int):=(of_decide_eq_false c1);?_⟩
   ·intro c hc
    rw[hm] at hc ⊢
    exact(lP (z:=fun _=>.int .i64 0) hc).trans krf
   ·rw[if_pos c2] at hns
    refine(aL (i+1,m+1) (toS [0,3] 4 (hob:=⟨?_,?_,trivial⟩)) ?_ ?_)
    ·exact⟨rfl,Nat.le_refl _,fun j _=>Aw rfl⟩
    ·show LeO (.cells false ((m+1)*1) (ab (aA s i++[(i:Int)]))) (.cells false ((m+1)*1) (ab (aA s (i+1))))
     rw[hns]
     exact Ay _
    ·refine⟨by show i+1<=_;omega,?_⟩
     show m+1=(aA s (i+1)).length
     rw[hns,List.length_append,<-hm]
     rfl
    ·show s.length-(i+1)<s.length-i
     omega
   ·rw[if_neg (by rw[c2];decide)] at hns
    refine(aL (i+1,m) (toL (h1:=⟨Av _,Av _,(Aw krf),trivial⟩) (h2:=⟨Ax,?_,trivial⟩)) ?_ ?_)
    ·show LeO (.cells false (m*1) (ab (aA s i))) (.cells false (m*1) (ab (aA s (i+1))))
     rw[hns]
     exact Ay _
    ·refine⟨by show i+1<=_;omega,?_⟩
     show m=(aA s (i+1)).length
     rw[hns,<-hm]
    ·show s.length-(i+1)<s.length-i
     omega
   ·exfalso;omega
  ·have hie:i=s.length:=by omega
   subst hie
   subst hm
   refine vcR [] (lkL [(3,[0,3,4,8]),(5,[0,3,4,14]),(6,[0,3,4]),(4,[0,3,4])]) (fun _=>[]) (fun Q=>(fun (u1:Int)=>(fun (u2:Nat)=>(fun (u3:List AObj)=>(fun (u4:Nat × AV)=>(decide (u1<u1)=true->(0<=u1/\u1<u1)/\List.length s+1<=List.length s*1/\(List.getD s (List.length s) false=true->0<1/\(u2+1)*8<=ax/\u2+1<=ax/\1<=1/\u2*1<=u2*1/\(-9223372036854775808<=u1+1/\u1+1<=9223372036854775807)/\Q AEx.normal (St.mk [u4,(3,ow true 3 (u2+1) 1),(4,int i64 (u1+1))] [cells false (List.length s*1) fun a=>ap s a,dead,cells false 1 (ah (fun (j:Nat)=>int i64 0) 0 1 fun x=>int i64 u1),cells false ((u2+1)*1) (aS 1 u2 (fun (i j:Nat)=>ab (aA s (List.length s)) (i*1+j)) fun i j=>ah (fun (j:Nat)=>int i64 0) 0 1 (fun (x:Nat)=>int i64 u1) (0+i*1+j))] g))/\(List.getD s (List.length s) false=false->(-9223372036854775808<=u1+1/\u1+1<=9223372036854775807)/\Q AEx.normal (St.mk [u4,(3,ow true 1 u2 1),(4,int i64 (u1+1))] u3 g)))/\(decide (u1<u1)=false->Q (AEx.exit 0) (St.mk [u4,(3,ow true 1 u2 1),(4,int i64 u1),(8,AV.bool (decide (u1<u1)))] u3 g))) ((0,ow true 0 (List.length s) 1))) ([cells false (List.length s*1) fun a=>ap s a,cells false (u2*1) fun a=>ab (aA s (List.length s)) a])) (List.length (aA s (List.length s)))) ((↑(List.length s):Int))) ⟨fun c1=>have c1:(↑(List.length s):Int)<(↑(List.length s):Int):=(of_decide_eq_true c1);⟨omg,omg,fun c2=>⟨omg,omg,omg,omg,omg,omg,?_⟩,fun c2=>⟨omg,?_⟩⟩,fun c1=>have c1:¬(↑(List.length s):Int)<(↑(List.length s):Int):=(of_decide_eq_false c1);?_⟩
   all_goals first|(exfalso;omega)|skip
   refine⟨_,AH _,vcR [] (lkL [(7,[2])]) (fun _=>[]) (fun (Q:AEx->St R.σ->Prop)=>Q AEx.ret (St.mk [(2,ow true 1 (List.length (aA s (List.length s))) 1)] [cells false (List.length s*1) fun (a:Nat)=>ap s a,cells false (List.length (aA s (List.length s))*1) fun (a:Nat)=>ab (aA s (List.length s)) a] g)) (?_)⟩
   refine(aw (aX _ _ rfl trivial rfl rfl rfl) (Av _))
def opC (n i:Nat):List Int:=List.replicate i 3++List.replicate (n-i) 0
theorem oy {n i j:Nat}:(opC n i).getD j 0=if j<i then 3 else 0:=by
 unfold opC
 rw[List.getD_eq_getElem?_getD,List.getElem?_append]
 simp only[List.length_replicate]
 split
 ·rw[List.getElem?_replicate_of_lt (by assumption)];rfl
 ·rw[List.getElem?_replicate]
  split <;> rfl
theorem yL {n i c:Nat}:ah (ab (opC n i)) i 1 (fun _=>.int .i64 3) c=ab (opC n (i+1)) c:=by
 rw[cA]
 unfold ab
 rw[oy,oy]
 split
 ·rw[if_pos omg]
 ·rename_i h
  congr 1
  by_cases hc:c<i
  ·rw[if_pos hc,if_pos omg]
  ·rw[if_neg hc,if_neg omg]
theorem yM (R:Res)(n:Nat)(hn:0<n/\n<=1000)(g:R.σ):Does Tryd.prog R 63 [.int .i64 n] [] g (.ret (.ow true 0 n 1)) [.cells false (n*1) (ab (List.replicate n 3))] g:=by
 have hroom:ax=140737488355328:=rfl
 have hrep:List.replicate n (3:Int)=opC n n:=by unfold opC;rw[Nat.sub_self];exact(List.append_nil _).symm
 rw[hrep]
 refine spW (nt:=16) (rs:=[.tmp 2]) (k0:=0) ?_
 refine vcR [] (lkL [(0,[0]),(1,[0,3]),(2,[0,3,4])]) (fun _=>[]) (fun Q=>0<=(↑n:Int)/\(↑n:Int)<=(↑n:Int)/\(↑n:Int)<=140737488355328/\n*8<=ax/\WpC Tryd.prog R 16 0 63 [1,1,0,1,0] Q [Kont.blk 0,Kont.seq [1,1,1]] (St.mk [(0,int i64 (↑n:Int)),(3,sl 0 0 n n true 1),(4,int i64 0)] [cells false (n*1) fun j=>int i64 0] g)) ⟨omg,omg,omg,omg,?_⟩
 refine(aZ krf (fun (i:Nat)=>⟨[(0,int i64 (n:Int)),(3,sl 0 0 n n true 1),(4,.int .i64 i)],[.cells false (n*1) (ab (opC n i))],g⟩) (fun (i:Nat)=>(i<=n)) (fun (i:Nat)=>(n-i)) 0 (toL (h1:=⟨Av _,Av _,(Aw krf),trivial⟩) (h2:=⟨?_,trivial⟩)) ?_ (fun i hi=>?_))
 ·exact⟨rfl,Nat.le_refl _,fun j _=>Aw (by show AV.int .i64 0=AV.int .i64 _;rw[oy,if_neg omg])⟩
 ·omega
 ·rcases Nat.lt_or_ge i n with hlt|hge
  ·refine vcR [] (lkL [(3,[0,3,4,9]),(5,[0,3,4]),(4,[0,3,4])]) (fun _=>[]) (fun Q=>(fun (u1:Int)=>(fun (u2:Int)=>(decide (u1<u2)=true->(0<=u1/\u1<u2)/\i+1<=n*1/\(-9223372036854775808<=u1+1/\u1+1<=9223372036854775807)/\Q AEx.normal (St.mk [(0,int i64 u2),(3,sl 0 0 n n true 1),(4,int i64 (u1+1))] [cells false (n*1) (ah (ab (opC n i)) i 1 fun x=>int i64 3)] g))/\(decide (u1<u2)=false->Q (AEx.exit 0) (St.mk [(0,int i64 u2),(3,sl 0 0 n n true 1),(4,int i64 u1),(9,AV.bool (decide (u1<u2)))] [cells false (n*1) fun a=>ab (opC n i) a] g))) ((↑n:Int))) ((↑i:Int))) ⟨fun c1=>have c1:(↑i:Int)<(↑n:Int):=(of_decide_eq_true c1);⟨omg,omg,omg,?_⟩,fun c1=>have c1:¬(↑i:Int)<(↑n:Int):=(of_decide_eq_false c1);?_⟩
   ·refine(aL (i+1) (toL (h1:=⟨Av _,Av _,(Aw krf),trivial⟩) (h2:=⟨?_,trivial⟩)) ?_ ?_)
    ·exact⟨rfl,Nat.le_refl _,fun j _=>Aw (yL.trans (by rfl))⟩
    ·omega
    ·omega
   ·exfalso;omega
  ·have hie:i=n:=by omega
   subst hie
   refine vcR [] (lkL [(3,[0,3,4,9]),(5,[0,3,4]),(4,[0,3,4])]) (fun _=>[]) (fun Q=>(fun (u1:Int)=>(decide (u1<u1)=true->(0<=u1/\u1<u1)/\i+1<=i*1/\(-9223372036854775808<=u1+1/\u1+1<=9223372036854775807)/\Q AEx.normal (St.mk [(0,int i64 u1),(3,sl 0 0 i i true 1),(4,int i64 (u1+1))] [cells false (i*1) (ah (ab (opC i i)) i 1 fun x=>int i64 3)] g))/\(decide (u1<u1)=false->Q (AEx.exit 0) (St.mk [(0,int i64 u1),(3,sl 0 0 i i true 1),(4,int i64 u1),(9,AV.bool (decide (u1<u1)))] [cells false (i*1) fun a=>ab (opC i i) a] g))) ((↑i:Int))) ⟨fun c1=>have c1:(↑i:Int)<(↑i:Int):=(of_decide_eq_true c1);⟨omg,omg,omg,?_⟩,fun c1=>have c1:¬(↑i:Int)<(↑i:Int):=(of_decide_eq_false c1);?_⟩
   all_goals first|(exfalso;omega)|skip
   refine⟨_,AH _,vcR [] (lkL [(6,[2])]) (fun _=>[]) (fun (Q:AEx->St R.σ->Prop)=>Q AEx.ret (St.mk [(2,sl 0 0 i i true 1)] [cells false (i*1) fun (a:Nat)=>ab (opC i i) a] g)) (?_)⟩
   show a9 Tryd.prog R 0 _ _ _ _ .ret _
   refine bY (.sl 0 0 i i true 1) _ rfl trivial (toL (h1:=⟨AE omg,trivial⟩) (h2:=nH _))
def cZ (s:Step):Int:=if s.rule = -1 then 1 else 2
def dx (x:Int)(v:List Int)(l:List Int):List Int:=l.foldl (fun v a=>v.set a.toNat x) v
def eT (v:List Int)(s:Step):List Int:=dx (cZ s) v s.atoms.l
theorem j7 {x:Int}:∀{l v:List Int},(dx x v l).length=v.length
 |[],_=>rfl
 |a::l,v=>by
  show(dx x (v.set a.toNat x) l).length=_
  rw[j7,List.length_set]
theorem yN {x:Int}{v l:List Int}{i:Nat}(h:i<l.length):dx x v (l.take (i+1))=(dx x v (l.take i)).set (l.getD i 0).toNat x:=by
 unfold dx
 rw[List.take_add_one,List.foldl_append,List.getElem?_eq_getElem h,List.getD_eq_getElem?_getD,List.getElem?_eq_getElem h]
 rfl
theorem sf {v:List Int}{a:Nat}{x:Int}(ha:a<v.length){c:Nat}:ah (ab v) a 1 (fun _=>.int .i64 x) c=ab (v.set a x) c:=by
 rw[cA]
 unfold ab
 rw[List.getD_eq_getElem?_getD,List.getD_eq_getElem?_getD,List.getElem?_set]
 by_cases h:a=c
 ·subst h
  rw[if_pos omg,if_pos rfl,if_pos ha]
  rfl
 ·rw[if_neg omg,if_neg h]
theorem yO {v:List Int}{a:Nat}{x y:Int}(ha:a<v.length){c:Nat}:ah (ah (ab v) a 1 (fun _=>.int .i64 y)) a 1 (fun _=>.int .i64 x) c=ab (v.set a x) c:=by
 rw[<-sf ha,cA,cA,cA]
 split
 ·rfl
 ·rfl
theorem yP (R:Res)(v:List Int)(s:Step)(hv:0<v.length/\v.length<1000000)(hl:s.atoms.l.length<1000000)(ha:∀i,i<s.atoms.l.length->0<=s.atoms.l.getD i 0/\s.atoms.l.getD i 0<v.length)(g:R.σ):Does Tryd.prog R 65 [.ow true 0 v.length 1,cQ s] [.cells false (v.length*1) (ab v)] g (.ret (.ow true 1 v.length 1)) [.cells false (v.length*1) (ab v),.cells false (v.length*1) (ab (eT v s))] g:=by
 have hroom:ax=140737488355328:=rfl
 refine spW (nt:=33) (rs:=[.tmp 4]) (k0:=1) ?_
 refine vcR [] (lkL [(0,[0,3]),(1,[0,3]),(2,[0,3,5])]) (lkL [(1,[(1,ROrc.val (Orc.obj (ab v)))])]) (fun Q=>(fun (u1:Nat)=>0<1/\u1*8<=ax/\u1<=ax/\List.length v*1<=List.length v*1/\(∀(c:Nat),c<u1*1->ab v c=ab v ((c-0)/1*1+(c-0)%1))/\WpC Tryd.prog R 33 1 65 [1,1,0,1,0] Q [Kont.blk 0,Kont.seq [1,1,1]] (St.mk [(0,ow true 2 u1 1),(3,ref 1 0),(5,int i64 0)] [cells false (List.length v*1) fun a=>ab v a,cells false 2 (nth [int i64 s.rule,fz s.atoms.2 1 (List.length s.atoms.l) fun i x=>ab s.atoms.l i]),cells false (u1*1) fun a=>ab v a] g)) (0+List.length v)) ⟨omg,omg,omg,omg,?_,?_⟩
 ·intro c hc
  show _=ab v ((c-0)/1*1+(c-0)%1)
  rw[show(c-0)/1*1+(c-0)%1=c by omega]
 rw[Nat.zero_add]
 refine(aZ krf (fun (i:Nat)=>⟨[(0,ow true 2 (v.length) 1),(3,ref 1 0),(5,.int .i64 i)],[.cells false (v.length*1) (ab v),.cells false 2 (nth [.int .i64 s.rule,aj s.atoms]),.cells false (v.length*1) (ab (dx (cZ s) v (s.atoms.l.take i)))],g⟩) (fun (i:Nat)=>(i<=s.atoms.l.length)) (fun (i:Nat)=>(s.atoms.l.length-i)) 0 (toL (h1:=⟨Av _,Av _,(Aw krf),trivial⟩)) ?_ (fun i hi=>?_))
 ·exact Nat.zero_le _
 ·rcases Nat.lt_or_ge i s.atoms.l.length with hlt|hge
  ·have hm:=ha i hlt
   have hal:=j7 (x:=cZ s) (l:=s.atoms.l.take i) (v:=v)
   have hs:=yN (x:=cZ s) (v:=v) hlt
   refine vcR [] (lkL [(3,[0,3,5,12]),(5,[0,3,5]),(6,[0,3,5,24]),(7,[0,3,5]),(4,[0,3,5])]) (fun _=>[]) (fun Q=>(fun (u1:Int)=>(fun (u2:AObj)=>(fun (u3:Int)=>(fun (u4:Int)=>(fun (u5:AObj)=>(fun (u6:List Int)=>(fun (u7:Nat)=>(fun (u8:List (Nat × AV))=>2<=2/\(decide (u4<u1)=true->2<=2/\(0<=u4/\u4<u1)/\1<=1/\(0<=u3/\u3<(↑(List.length v):Int))/\Int.toNat u3+1<=u7/\1<=2/\((s.rule == -1)=true->2<=2/\(0<=u4/\u4<u1)/\1<=1/\(0<=u3/\u3<(↑(List.length v):Int))/\Int.toNat u3+1<=u7/\(-9223372036854775808<=u4+1/\u4+1<=9223372036854775807)/\Q AEx.normal (St.mk u8 [u5,u2,cells false u7 (ah (ah (ab u6) (Int.toNat u3) 1 fun x=>int i64 2) (Int.toNat u3) 1 fun x=>int i64 1)] g))/\((s.rule == -1)=false->(-9223372036854775808<=u4+1/\u4+1<=9223372036854775807)/\Q AEx.normal (St.mk u8 [u5,u2,cells false u7 (ah (ab u6) (Int.toNat u3) 1 fun x=>int i64 2)] g)))/\(decide (u4<u1)=false->Q (AEx.exit 0) (St.mk [(0,ow true 2 (List.length v) 1),(3,ref 1 0),(5,int i64 u4),(12,AV.bool (decide (u4<u1)))] [u5,u2,cells false u7 fun a=>ab u6 a] g))) ([(0,ow true 2 (List.length v) 1),(3,ref 1 0),(5,int i64 (u4+1))])) (List.length v*1)) (dx (cZ s) v (List.take i s.atoms.l))) (cells false (List.length v*1) fun a=>ab v a)) ((↑i:Int))) (List.getD s.atoms.l i 0)) (cells false 2 (nth [int i64 s.rule,fz s.atoms.2 1 (List.length s.atoms.l) fun i x=>ab s.atoms.l i]))) ((↑(List.length s.atoms.l):Int))) ⟨omg,fun c1=>have c1:(↑i:Int)<(↑(List.length s.atoms.l):Int):=(of_decide_eq_true c1);⟨omg,omg,omg,omg,omg,omg,fun c2=>have c2:s.rule = -1:=(beq_iff_eq.mp c2);⟨omg,omg,omg,omg,omg,omg,?_⟩,fun c2=>have c2:¬s.rule = -1:=(beq_eq_false_iff_ne.mp c2);⟨omg,?_⟩⟩,fun c1=>have c1:¬(↑i:Int)<(↑(List.length s.atoms.l):Int):=(of_decide_eq_false c1);?_⟩
   ·have hx:cZ s=1:=if_pos c2
    rw[hx] at hs hal ⊢
    refine(aL (i+1) (toL (h1:=⟨Av _,Av _,(Aw krf),trivial⟩) (h2:=⟨Ax,Ax,?_,trivial⟩)) ?_ ?_)
    ·exact⟨rfl,Nat.le_refl _,fun j _=>by
      rw[hs]
      exact Aw (yO omg)⟩
    ·omega
    ·omega
   ·have hx:cZ s=2:=if_neg c2
    rw[hx] at hs hal ⊢
    refine(aL (i+1) (toL (h1:=⟨Av _,Av _,(Aw krf),trivial⟩) (h2:=⟨Ax,Ax,?_,trivial⟩)) ?_ ?_)
    ·exact⟨rfl,Nat.le_refl _,fun j _=>by
      rw[hs]
      exact Aw (sf omg)⟩
    ·omega
    ·omega
   ·exfalso;omega
  ·have hie:i=s.atoms.l.length:=by omega
   subst hie
   rw[List.take_length]
   refine vcR [] (lkL [(3,[0,3,5,12]),(5,[0,3,5]),(6,[0,3,5,24]),(7,[0,3,5]),(4,[0,3,5])]) (fun _=>[]) (fun Q=>(fun (u1:Int)=>(fun (u2:Int)=>(fun (u3:AObj)=>(fun (u4:AObj)=>(fun (u5:Nat)=>(fun (u6:List (Nat × AV))=>2<=2/\(decide (u1<u1)=true->2<=2/\(0<=u1/\u1<u1)/\1<=1/\(0<=u2/\u2<(↑(List.length v):Int))/\Int.toNat u2+1<=u5/\1<=2/\((s.rule == -1)=true->2<=2/\(0<=u1/\u1<u1)/\1<=1/\(0<=u2/\u2<(↑(List.length v):Int))/\Int.toNat u2+1<=u5/\(-9223372036854775808<=u1+1/\u1+1<=9223372036854775807)/\Q AEx.normal (St.mk u6 [u4,u3,cells false u5 (ah (ah (ab (dx (cZ s) v s.atoms.l)) (Int.toNat u2) 1 fun x=>int i64 2) (Int.toNat u2) 1 fun x=>int i64 1)] g))/\((s.rule == -1)=false->(-9223372036854775808<=u1+1/\u1+1<=9223372036854775807)/\Q AEx.normal (St.mk u6 [u4,u3,cells false u5 (ah (ab (dx (cZ s) v s.atoms.l)) (Int.toNat u2) 1 fun x=>int i64 2)] g)))/\(decide (u1<u1)=false->Q (AEx.exit 0) (St.mk [(0,ow true 2 (List.length v) 1),(3,ref 1 0),(5,int i64 u1),(12,AV.bool (decide (u1<u1)))] [u4,u3,cells false u5 fun a=>ab (dx (cZ s) v s.atoms.l) a] g))) ([(0,ow true 2 (List.length v) 1),(3,ref 1 0),(5,int i64 (u1+1))])) (List.length v*1)) (cells false (List.length v*1) fun a=>ab v a)) (cells false 2 (nth [int i64 s.rule,fz s.atoms.2 1 (List.length s.atoms.l) fun i x=>ab s.atoms.l i]))) (List.getD s.atoms.l (List.length s.atoms.l) 0)) ((↑(List.length s.atoms.l):Int))) ⟨omg,fun c1=>have c1:(↑(List.length s.atoms.l):Int)<(↑(List.length s.atoms.l):Int):=(of_decide_eq_true c1);⟨omg,omg,omg,omg,omg,omg,fun c2=>have c2:s.rule = -1:=(beq_iff_eq.mp c2);⟨omg,omg,omg,omg,omg,omg,?_⟩,fun c2=>have c2:¬s.rule = -1:=(beq_eq_false_iff_ne.mp c2);⟨omg,?_⟩⟩,fun c1=>have c1:¬(↑(List.length s.atoms.l):Int)<(↑(List.length s.atoms.l):Int):=(of_decide_eq_false c1);?_⟩
   all_goals first|(exfalso;omega)|skip
   refine⟨_,AH _,vcR [] (lkL [(8,[4])]) (fun _=>[]) (fun (Q:AEx->St R.σ->Prop)=>Q AEx.ret (St.mk [(4,ow true 2 (List.length v) 1)] [cells false (List.length v*1) fun (a:Nat)=>ab v a,cells false 2 (nth [int i64 s.rule,fz s.atoms.2 1 (List.length s.atoms.l) fun (i x:Nat)=>ab s.atoms.l i]),cells false (List.length v*1) fun (a:Nat)=>ab (dx (cZ s) v s.atoms.l) a] g)) (?_)⟩
   show a9 Tryd.prog R 1 _ _ _ _ .ret _
   refine bY (.ow true 2 v.length 1) _ rfl trivial (toS (s':=⟨[(0,.ow true 1 v.length 1)],[.cells false (v.length*1) (ab v),.cells false (v.length*1) (ab (eT v s))],g⟩) [0,2] 3 (hob:=⟨Ay _,Ay _,trivial⟩))
def yQ (n:Nat)(l:List Int):List Bool:=l.foldl (fun b a=>b.set a.toNat true) (List.replicate n false)
theorem f0 {b:List Bool}{a:Nat}(ha:a<b.length){c:Nat}:ah (ap b) a 1 (fun _=>.bool true) c=ap (b.set a true) c:=by
 rw[cA]
 unfold ap
 rw[List.getD_eq_getElem?_getD,List.getD_eq_getElem?_getD,List.getElem?_set]
 by_cases h:a=c
 ·subst h
  rw[if_pos omg,if_pos rfl,if_pos ha]
  rfl
 ·rw[if_neg omg,if_neg h]
theorem yR {n j:Nat}:ap (yQ n []) j=.bool false:=by
 show AV.bool _=_
 congr 1
 show(List.replicate n false).getD j false=false
 rw[List.getD_eq_getElem?_getD,List.getElem?_replicate]
 split <;> rfl
def dL (a b:List Bool)(n:Nat):Bool:=(List.range n).any fun i=>a.getD i false != b.getD i false
theorem yS {a b:List Bool}{n:Nat}:dL a b (n+1)=(dL a b n||(a.getD n false != b.getD n false)):=by
 unfold dL
 rw[List.range_succ,List.any_append]
 simp
theorem yT {a b:List Bool}{n i:Nat}(hi:i<n)(h:(a.getD i false != b.getD i false)=true):dL a b n=true:=
 List.any_eq_true.2 ⟨i,List.mem_range.2 hi,h⟩
def cn (v:List Int)(s:List Bool)(r:Rule):List Bool:=if upholdsR v s r then s.set r.head.toNat false else s
def bN (v:List Int)(s:List Bool)(l:List Rule):List Bool:=l.foldl (cn v) s
def grCh (v:List Int):List Rule->List Bool->Bool
 |[],_=>false
 |r::l,s=>upholdsR v s r||grCh v l (cn v s r)
theorem yU {v:List Int}{s:List Bool}{r:Rule}:(cn v s r).length=s.length:=by
 unfold cn
 split
 ·exact List.length_set
 ·rfl
theorem lT {v:List Int}:∀{l:List Rule} {s:List Bool},(bN v s l).length=s.length
 |[],_=>rfl
 |r::l,s=>by
  show(bN v (cn v s r) l).length=_
  rw[lT,yU]
theorem sg {v:List Int}:∀{l m:List Rule} {s:List Bool},grCh v (l++m) s=(grCh v l s||grCh v m (bN v s l))
 |[],_,_=>by simp[grCh,bN]
 |r::l,m,s=>by
  show(upholdsR v s r||grCh v (l++m) (cn v s r))=((upholdsR v s r||grCh v l (cn v s r))||grCh v m (bN v (cn v s r) l))
  rw[sg,Bool.or_assoc]
theorem yV {v:List Int}{s:List Bool}{l:List Rule}{i:Nat}(h:i<l.length):bN v s (l.take (i+1))=cn v (bN v s (l.take i)) (l.getD i default):=jV (cn v) s l default h
theorem yW {v:List Int}{s:List Bool}{l:List Rule}{i:Nat}(h:i<l.length):grCh v (l.take (i+1)) s=(grCh v (l.take i) s||upholdsR v (bN v s (l.take i)) (l.getD i default)):=by
 rw[List.take_add_one,sg,List.getElem?_eq_getElem h,List.getD_eq_getElem?_getD,List.getElem?_eq_getElem h]
 show(_||(upholdsR v _ _||false))=_
 rw[Bool.or_false]
 rfl
def cR (s:List Bool):Nat:=s.count true
theorem sh (s:List Bool):cR s<=s.length:=List.count_le_length
theorem sj:∀{s:List Bool} {i:Nat},s.getD i false=true->cR (s.set i false)+1=cR s
 |[],i,h=>by simp at h
 |b::s,0,h=>by
  have h:b=true:=by simpa using h
  subst h
  show(false::s).count true+1=(true::s).count true
  simp
 |b::s,i+1,h=>by
  have ih:=sj (s:=s) (i:=i) (by simpa using h)
  unfold cR at ih ⊢
  rw[List.set_cons_succ,List.count_cons,List.count_cons]
  omega
theorem yX {v:List Int}{s:List Bool}{r:Rule}:cR (cn v s r)<=cR s/\(upholdsR v s r=true->cR (cn v s r)<cR s):=by
 unfold cn
 by_cases h:upholdsR v s r=true
 ·rw[if_pos h]
  have h2:s.getD r.head.toNat false=true:=by
   unfold upholdsR at h
   rw[Bool.and_eq_true] at h
   exact h.1
  have:=sj h2
  exact⟨omg,fun _=>omg⟩
 ·rw[if_neg h]
  exact⟨Nat.le_refl _,fun k=>absurd k h⟩
theorem oz {v:List Int}:∀{l:List Rule} {s:List Bool},cR (bN v s l)<=cR s/\(grCh v l s=true->cR (bN v s l)<cR s)/\(grCh v l s=false->bN v s l=s/\∀r,r∈l->upholdsR v s r=false)
 |[],_=>⟨Nat.le_refl _,fun h=>(by cases h),fun _=>⟨rfl,fun r h=>(by cases h)⟩⟩
 |r::l,s=>by
  obtain⟨a1,a2,a3⟩:=oz (v:=v) (l:=l) (s:=cn v s r)
  obtain⟨b1,b2⟩:=yX (v:=v) (s:=s) (r:=r)
  refine⟨Nat.le_trans a1 b1,fun h=>?_,fun h=>?_⟩
  ·have h:(upholdsR v s r||grCh v l (cn v s r))=true:=h
   rw[Bool.or_eq_true] at h
   rcases h with h|h
   ·exact Nat.lt_of_le_of_lt a1 (b2 h)
   ·exact Nat.lt_of_lt_of_le (a2 h) b1
  ·have h:(upholdsR v s r||grCh v l (cn v s r))=false:=h
   rw[Bool.or_eq_false_iff] at h
   have e:cn v s r=s:=if_neg (by rw[h.1];decide)
   obtain⟨c1,c2⟩:=a3 h.2
   rw[e] at c1 c2
   refine⟨?_,fun q hq=>?_⟩
   ·show bN v (cn v s r) l=s
    rw[e];exact c1
   ·rcases List.mem_cons.1 hq with rfl|hq
    ·exact h.1
    ·exact c2 q hq
def ej (v:List Int)(p:Prg):Nat->List Bool->List Bool
 |0,s=>s
 |n+1,s=>if grCh v p.rules.l s then ej v p n (bN v s p.rules.l) else s
def dX (v:List Int):List Bool:=v.map (fun x=>x==3)
def grR (v:List Int)(p:Prg):List Bool:=ej v p (v.length+1) (dX v)
theorem j8 (v:List Int):(dX v).length=v.length:=List.length_map _
def grO (v:List Int)(i:Nat):List Bool:=(dX v).take i++List.replicate (v.length-i) false
theorem oA {v:List Int}{i j:Nat}(hi:i<=v.length):(grO v i).getD j false=(decide (j<i)&&(v.getD j 0==3)):=by
 unfold grO dX
 rw[List.getD_eq_getElem?_getD,List.getElem?_append,List.length_take,List.length_map]
 by_cases h:j<i
 ·rw[if_pos omg,List.getElem?_take,if_pos h,List.getElem?_map,decide_eq_true h,List.getD_eq_getElem?_getD,List.getElem?_eq_getElem omg]
  rfl
 ·rw[if_neg omg,decide_eq_false h,List.getElem?_replicate]
  split <;> rfl
theorem yY {v:List Int}:grO v v.length=dX v:=by
 unfold grO
 rw[Nat.sub_self,List.replicate_zero,List.append_nil,List.take_of_length_le (by rw[j8];exact Nat.le_refl _)]
theorem yZ {v:List Int}{i c:Nat}(hi:i<v.length):ah (ap (grO v i)) i 1 (fun _=>.bool (v.getD i 0==3)) c=ap (grO v (i+1)) c:=by
 rw[cA]
 unfold ap
 rw[oA omg,oA omg]
 by_cases h:i<=c/\c<i+1
 ·have:c=i:=by omega
  subst this
  rw[if_pos h,decide_eq_true omg]
  rfl
 ·rw[if_neg h]
  congr 2
  exact decide_eq_decide.2 omg
theorem y0 {b:List Bool}{a:Nat}(ha:a<b.length){c:Nat}:ah (ap b) a 1 (fun _=>.bool false) c=ap (b.set a false) c:=by
 rw[cA]
 unfold ap
 rw[List.getD_eq_getElem?_getD,List.getD_eq_getElem?_getD,List.getElem?_set]
 by_cases h:a=c
 ·subst h
  rw[if_pos omg,if_pos rfl,if_pos ha]
  rfl
 ·rw[if_neg omg,if_neg h]
theorem sk {v:List Int}{p:Prg}:∀{n:Nat} {s:List Bool},(ej v p n s).length=s.length
 |0,_=>rfl
 |n+1,s=>by
  show(if grCh v p.rules.l s then ej v p n (bN v s p.rules.l) else s).length=_
  split
  ·rw[sk,lT]
  ·rfl
theorem sm {v:List Int}{p:Prg}:(grR v p).length=v.length:=by
 unfold grR
 rw[sk,j8]
def lU (v:List Int)(p:Prg)(x:List Bool × Bool):Prop:=x.1.length=v.length/\(x.2=true->∃f,cR x.1<f/\ej v p f x.1=grR v p)/\(x.2=false->x.1=grR v p)
theorem y7 (v:List Int)(p:Prg):lU v p (dX v,true):=
 ⟨j8 v,fun _=>⟨v.length+1,Nat.lt_succ_of_le (by rw[<-j8 v];exact sh _),rfl⟩,fun h=>(by cases h)⟩
theorem y8 {v:List Int}{p:Prg}{s:List Bool}(h:lU v p (s,true)):lU v p (bN v s p.rules.l,grCh v p.rules.l s)/\(if grCh v p.rules.l s then cR (bN v s p.rules.l)+1 else 0)<cR s+1:=by
 obtain⟨h1,h2,_⟩:=h
 obtain⟨f,f1,f2⟩:=h2 rfl
 obtain⟨c1,c2,c3⟩:=oz (v:=v) (l:=p.rules.l) (s:=s)
 obtain⟨f,rfl⟩:∃k,f=k+1:=⟨f-1,omg⟩
 have f1:cR s<f+1:=f1
 have f3:(if grCh v p.rules.l s then ej v p f (bN v s p.rules.l) else s)=grR v p:=f2
 refine⟨⟨by rw[lT];exact h1,fun h=>⟨f,?_,?_⟩,fun h=>?_⟩,?_⟩
 ·have:=c2 h
  show cR (bN v s p.rules.l)<f
  omega
 ·have h:grCh v p.rules.l s=true:=h
  rw[if_pos h] at f3
  exact f3
 ·have h:grCh v p.rules.l s=false:=h
  rw[if_neg (by rw[h];decide)] at f3
  show bN v s p.rules.l=_
  rw[(c3 h).1,f3]
 ·split
  ·rename_i h
   have:=c2 h
   omega
  ·omega
theorem y9 (R:Res)(v:List Int)(p:Prg)(hv:0<v.length/\v.length<1000000)(hpa:p.atoms=v.length)(hpl:p.rules.l.length<1000000)(hr:∀r,r∈p.rules.l->cu v.length r)(g:R.σ):Does Tryd.prog R 98 [.ow true 0 v.length 1,au p] [.cells false (v.length*1) (ab v)] g (.ret (.ow true 1 (aA (grR v p) v.length).length 1)) [.cells false (v.length*1) (ab v),.cells false ((aA (grR v p) v.length).length*1) (ab (aA (grR v p) v.length))] g:=by
 have hroom:ax=140737488355328:=rfl
 have hN:=fun (R:Res) (s:List Bool) (hs:s.length=v.length) (g:R.σ)=>hs▸yK R s omg g
 have hgl:(grR v p).length=v.length:=sm
 refine spW (nt:=60) (rs:=[.tmp 4]) (k0:=1) ?_
 refine vcR [] (lkL [(0,[0,3]),(1,[0,3,5]),(2,[0,3,5,6])]) (fun _=>[]) (fun Q=>1<=2/\0<=p.atoms/\p.atoms<=p.atoms/\p.atoms<=140737488355328/\Int.toNat p.atoms*1<=ax/\WpC Tryd.prog R 60 1 98 [1,1,0,1,0] Q [Kont.blk 0,Kont.seq [1,1,1]] (St.mk [(0,ow true 0 (List.length v) 1),(3,ref 1 0),(5,sl 2 0 (Int.toNat p.atoms) (Int.toNat p.atoms) true 1),(6,int i64 0)] [cells false (List.length v*1) fun a=>ab v a,cells false 2 (nth [int i64 p.atoms,ad p.rules]),cells false (Int.toNat p.atoms*1) fun j=>AV.bool false] g)) ⟨omg,omg,omg,omg,omg,?_⟩
 rw[show p.atoms.toNat=v.length by omega]
 refine br (toL (s':=⟨[(0,.ow true 0 v.length 1),(3,.ref 1 0),(5,.ow true 2 v.length 1),(6,.int .i64 0)],[.cells false (v.length*1) (ab v),.cells false 2 (nth [.int .i64 p.atoms,ad p.rules]),.cells false (v.length*1) (fun _=>.bool false)],g⟩) (h1:=?_) (h2:=?_)) ?_
 ·exact⟨Av _,Av _,AE omg,Av _,trivial⟩
 ·exact⟨Ay _,Ay _,Ay _,trivial⟩
 refine(aZ krf (fun (i:Nat)=>⟨[(0,ow true 0 (v.length) 1),(3,ref 1 0),(5,ow true 2 (v.length) 1),(6,.int .i64 i)],[.cells false (v.length*1) (ab v),.cells false 2 (nth [.int .i64 p.atoms,ad p.rules]),.cells false (v.length*1) (ap (grO v i))],g⟩) (fun (i:Nat)=>(i<=v.length)) (fun (i:Nat)=>(v.length-i)) 0 (toL (h1:=⟨Av _,Av _,Av _,(Aw krf),trivial⟩) (h2:=⟨Ax,Ax,?_,trivial⟩)) ?_ (fun i hi=>?_))
 ·exact⟨rfl,Nat.le_refl _,fun j _=>Aw (by
   show AV.bool false=AV.bool _
   rw[oA omg]
   rfl)⟩
 ·omega
 ·rcases Nat.lt_or_ge i v.length with hlt|hge
  ·refine vcR [] (lkL [(3,[0,3,5,6,16]),(5,[0,3,5,6]),(4,[0,3,5,6])]) (fun _=>[]) (fun Q=>(fun (u1:Int)=>(fun (u2:Nat)=>(fun (u3:AObj)=>1<=2/\(decide (u1<p.atoms)=true->(0<=u1/\u1<(↑(List.length v):Int))/\i+1<=u2/\(0<=u1/\u1<(↑(List.length v):Int))/\i+1<=u2/\(-9223372036854775808<=u1+1/\u1+1<=9223372036854775807)/\Q AEx.normal (St.mk [(0,ow true 0 (List.length v) 1),(3,ref 1 0),(5,ow true 2 (List.length v) 1),(6,int i64 (u1+1))] [cells false u2 fun a=>ab v a,u3,cells false u2 (ah (ap (grO v i)) i 1 fun x=>AV.bool (List.getD v i 0==3))] g))/\(decide (u1<p.atoms)=false->Q (AEx.exit 0) (St.mk [(0,ow true 0 (List.length v) 1),(3,ref 1 0),(5,ow true 2 (List.length v) 1),(6,int i64 u1),(16,AV.bool (decide (u1<p.atoms)))] [cells false u2 fun a=>ab v a,u3,cells false u2 fun a=>ap (grO v i) a] g))) (cells false 2 (nth [int i64 p.atoms,ad p.rules]))) (List.length v*1)) ((↑i:Int))) ⟨omg,fun c1=>have c1:(↑i:Int)<p.atoms:=(of_decide_eq_true c1);⟨omg,omg,omg,omg,omg,?_⟩,fun c1=>have c1:¬(↑i:Int)<p.atoms:=(of_decide_eq_false c1);?_⟩
   ·refine(aL (i+1) (toL (h1:=⟨Av _,Av _,Av _,(Aw krf),trivial⟩) (h2:=⟨Ax,Ax,?_,trivial⟩)) ?_ ?_)
    ·exact⟨rfl,Nat.le_refl _,fun j _=>Aw (yZ omg)⟩
    ·omega
    ·omega
   ·exfalso;omega
  ·have hie:i=v.length:=by omega
   subst hie
   rw[yY]
   refine vcR [] (lkL [(3,[0,3,5,6,16]),(5,[0,3,5,6]),(4,[0,3,5,6])]) (fun _=>[]) (fun Q=>(fun (u1:Int)=>(fun (u2:Nat)=>(fun (u3:AObj)=>1<=2/\(decide (u1<p.atoms)=true->(0<=u1/\u1<u1)/\List.length v+1<=u2/\(0<=u1/\u1<u1)/\List.length v+1<=u2/\(-9223372036854775808<=u1+1/\u1+1<=9223372036854775807)/\Q AEx.normal (St.mk [(0,ow true 0 (List.length v) 1),(3,ref 1 0),(5,ow true 2 (List.length v) 1),(6,int i64 (u1+1))] [cells false u2 fun a=>ab v a,u3,cells false u2 (ah (ap (dX v)) (List.length v) 1 fun x=>AV.bool (List.getD v (List.length v) 0==3))] g))/\(decide (u1<p.atoms)=false->Q (AEx.exit 0) (St.mk [(0,ow true 0 (List.length v) 1),(3,ref 1 0),(5,ow true 2 (List.length v) 1),(6,int i64 u1),(16,AV.bool (decide (u1<p.atoms)))] [cells false u2 fun a=>ab v a,u3,cells false u2 fun a=>ap (dX v) a] g))) (cells false 2 (nth [int i64 p.atoms,ad p.rules]))) (List.length v*1)) ((↑(List.length v):Int))) ⟨omg,fun c1=>have c1:(↑(List.length v):Int)<p.atoms:=(of_decide_eq_true c1);⟨omg,omg,omg,omg,omg,?_⟩,fun c1=>have c1:¬(↑(List.length v):Int)<p.atoms:=(of_decide_eq_false c1);?_⟩
   all_goals first|(exfalso;omega)|skip
   refine⟨_,AH _,vcR [] (lkL [(6,[0,3,5,7])]) (fun _=>[]) (fun (Q:AEx->St R.σ->Prop)=>WpC Tryd.prog R 60 1 98 [1,1,1,0,1,0] Q [Kont.blk 2,Kont.seq [1,1,1,1]] (St.mk [(0,ow true 0 (List.length v) 1),(3,ref 1 0),(5,ow true 2 (List.length v) 1),(7,AV.bool true)] [cells false (List.length v*1) fun (a:Nat)=>ab v a,cells false 2 (nth [int i64 p.atoms,ad p.rules]),cells false (List.length v*1) fun (a:Nat)=>ap (dX v) a] g)) (?_)⟩
   refine(aZ krf (fun (x:List Bool × Bool)=>⟨[(0,ow true 0 (v.length) 1),(3,ref 1 0),(5,ow true 2 (v.length) 1),(7,.bool x.2)],[.cells false (v.length*1) (ab v),.cells false 2 (nth [.int .i64 p.atoms,ad p.rules]),.cells false (v.length*1) (ap x.1)],g⟩) (fun (x:List Bool × Bool)=>(lU v p x)) (fun (x:List Bool × Bool)=>(if x.2 then cR x.1+1 else 0)) (dX v,true) (aV ⟨Av _,Av _,Av _,Av _,trivial⟩ rfl rfl) ?_ (fun x hi=>?_))
   ·exact y7 v p
   ·obtain⟨s,ch⟩:=x
    have hok:=hi
    obtain⟨h1,h2,h3⟩:=hi
    simp only at h1 h2 h3
    cases ch with
    |false=>
     rw[h3 rfl]
     refine vcR [[1,1,1,0,1,0,0,0,1,0]] (lkL [(7,[0,3,5,27])]) (fun _=>[]) (fun Q=>(fun (u1:St R.σ)=>(false=true->WpC Tryd.prog R 60 1 98 [1,1,1,0,1,0,0,0,1,0] Q [Kont.seq [1,1,1,0,1,0,0,1]] u1)/\(false=false->Q (AEx.exit 2) u1)) (St.mk [(0,ow true 0 (List.length v) 1),(3,ref 1 0),(5,ow true 2 (List.length v) 1),(27,AV.bool false)] [cells false (List.length v*1) fun a=>ab v a,cells false 2 (nth [int i64 p.atoms,ad p.rules]),cells false (List.length v*1) fun a=>ap (grR v p) a] g)) ⟨fun h=>(nomatch h),fun _=>?_⟩
     refine⟨_,AH _,vcR [] (lkL [(16,[4])]) (lkL [(16,[(1,ROrc.call (ow true 3 (List.length (aA (grR v p) (List.length v))) 1) [cells false (List.length v*1) fun (a:Nat)=>ab v a,cells false 2 (nth [int i64 p.atoms,ad p.rules]),cells false (List.length v*1) fun (a:Nat)=>ap (grR v p) a,cells false (List.length (aA (grR v p) (List.length v))*1) (ab (aA (grR v p) (List.length v)))] g)])]) (fun Q=>(fun (u1:List AObj)=>(fun (u2:AV)=>(true=true/\Does Tryd.prog R 85 [ow true 2 (List.length v) 1] [cells false (List.length v*1) fun a=>ab v a,cells false 2 (nth [int i64 p.atoms,ad p.rules]),cells false (List.length v*1) fun a=>ap (grR v p) a] g (ret u2) u1 g)/\Q AEx.ret (St.mk [(4,u2)] u1 g)) (ow true 3 (List.length (aA (grR v p) (List.length v))) 1)) ([cells false (List.length v*1) fun a=>ab v a,cells false 2 (nth [int i64 p.atoms,ad p.rules]),cells false (List.length v*1) fun a=>ap (grR v p) a,cells false (List.length (aA (grR v p) (List.length v))*1) fun a=>ab (aA (grR v p) (List.length v)) a])) ⟨⟨rfl,(doS [2] 3 (fun R g=>hN R (grR v p) omg g))⟩,?_⟩⟩
     show a9 Tryd.prog R 1 _ _ _ _ .ret _
     exact bY (.ow true 3 (aA (grR v p) v.length).length 1) _ rfl trivial (toS (s':=⟨[(0,.ow true 1 (aA (grR v p) v.length).length 1)],[.cells false (v.length*1) (ab v),.cells false ((aA (grR v p) v.length).length*1) (ab (aA (grR v p) v.length))],g⟩) [0,3] 4 (hob:=⟨Ay _,Ay _,trivial⟩))
    |true=>
     have hnx:=y8 hok
     refine vcR [[1,1,1,0,1,0,0,0,1,1]] (lkL [(7,[0,3,5,27]),(8,[0,3,5,7]),(9,[0,3,5,7,8])]) (fun _=>[]) (fun Q=>(fun (u1:List AObj)=>(true=true->WpC Tryd.prog R 60 1 98 [1,1,1,0,1,0,0,1,0,1,1,0] Q [Kont.blk 4,Kont.blk 3] (St.mk [(0,ow true 0 (List.length v) 1),(3,ref 1 0),(5,ow true 2 (List.length v) 1),(7,AV.bool false),(8,int i64 0)] u1 g))/\(true=false->WpC Tryd.prog R 60 1 98 [1,1,1,0,1,0,0,0,1,1] Q [Kont.seq [1,1,1,0,1,0,0,1]] (St.mk [(0,ow true 0 (List.length v) 1),(3,ref 1 0),(5,ow true 2 (List.length v) 1),(27,AV.bool true)] u1 g))) ([cells false (List.length v*1) fun a=>ab v a,cells false 2 (nth [int i64 p.atoms,ad p.rules]),cells false (List.length v*1) fun a=>ap s a])) ⟨fun _=>?_,fun h=>(nomatch h)⟩
     refine(aZ krf (fun (i:Nat)=>⟨[(0,ow true 0 (v.length) 1),(3,ref 1 0),(5,ow true 2 (v.length) 1),(7,.bool (grCh v (p.rules.l.take i) s)),(8,.int .i64 i)],[.cells false (v.length*1) (ab v),.cells false 2 (nth [.int .i64 p.atoms,ad p.rules]),.cells false (v.length*1) (ap (bN v s (p.rules.l.take i)))],g⟩) (fun (i:Nat)=>(i<=p.rules.l.length)) (fun (i:Nat)=>(p.rules.l.length-i)) 0 (toL (h1:=⟨Av _,Av _,Av _,Av _,(Aw krf),trivial⟩)) ?_ (fun i hi=>?_))
     ·exact Nat.zero_le _
     ·rcases Nat.lt_or_ge i p.rules.l.length with hlt|hge
      ·have hm:=hr _ (fV hlt)
       have hm1:=hm.1
       have hm2:=hm.2
       have hf:=yV (v:=v) (s:=s) hlt
       have hc:=yW (v:=v) (s:=s) hlt
       obtain⟨t,ht⟩:∃t,bN v s (p.rules.l.take i)=t:=⟨_,rfl⟩
       have htl:t.length=v.length:=by rw[<-ht,lT];exact h1
       have hS:=fun (R:Res) (g:R.σ)=>yJ R v t (p.rules.l.getD i default) htl hm1 g
       simp only[htl] at hS
       rw[ht] at hf hc ⊢
       unfold cn upholdsR at hf
       unfold upholdsR at hc
       refine vcR [] (lkL [(10,[0,3,5,7,8,32]),(12,[0,3,5,7,8,9]),(13,[0,3,5,7,8,9,54]),(14,[0,3,5,8]),(15,[0,3,5,7,8]),(11,[0,3,5,7,8])]) (lkL [(13,[(12,ROrc.kcall (AV.bool (dK v t (List.getD p.rules.l i default))))])]) (fun Q=>(fun (u1:List AObj)=>(fun (u2:Rule)=>(fun (u3:Int)=>(fun (u4:Bool)=>(fun (u5:Int)=>(fun (u6:AV)=>(fun (u7:AV)=>2<=2/\(decide (u5<u3)=true->2<=2/\(0<=u5/\u5<u3)/\1<=2/\(0<=u2.head/\u2.head<(↑(List.length v):Int))/\Int.toNat u2.head+1<=List.length v*1/\(u4=true->2<=2)/\(u4=true->0<=u5/\u5<u3)/\(u4=true->2<=2)/\(u4=true->true=true/\Does Tryd.prog R 117 [u6,bC u2,u7] u1 g (ret (AV.bool (dK v t u2))) u1 g)/\((bif u4 then dK v t u2 else false)=true->(0<=u2.head/\u2.head<(↑(List.length v):Int))/\Int.toNat u2.head+1<=List.length v*1/\(-9223372036854775808<=u5+1/\u5+1<=9223372036854775807)/\Q AEx.normal (St.mk [(0,u6),(3,ref 1 0),(5,u7),(7,AV.bool true),(8,int i64 (u5+1))] [cells false (List.length v*1) fun a=>ab v a,cells false 2 (nth [int i64 p.atoms,ad p.rules]),cells false (List.length v*1) (ah (ap t) (Int.toNat u2.head) 1 fun x=>AV.bool false)] g))/\((bif u4 then dK v t u2 else false)=false->(-9223372036854775808<=u5+1/\u5+1<=9223372036854775807)/\Q AEx.normal (St.mk [(0,u6),(3,ref 1 0),(5,u7),(7,AV.bool (grCh v (List.take i p.rules.l) s)),(8,int i64 (u5+1))] u1 g)))/\(decide (u5<u3)=false->Q (AEx.exit 4) (St.mk [(0,u6),(3,ref 1 0),(5,u7),(7,AV.bool (grCh v (List.take i p.rules.l) s)),(8,int i64 u5),(32,AV.bool (decide (u5<u3)))] u1 g))) (ow true 2 (List.length v) 1)) (ow true 0 (List.length v) 1)) ((↑i:Int))) (List.getD t (Int.toNat u2.head) false)) ((↑(List.length p.rules.l):Int))) (List.getD p.rules.l i default)) ([cells false (List.length v*1) fun a=>ab v a,cells false 2 (nth [int i64 p.atoms,ad p.rules]),cells false (List.length v*1) fun a=>ap t a])) ⟨omg,fun c1=>have c1:(↑i:Int)<(↑(List.length p.rules.l):Int):=(of_decide_eq_true c1);⟨omg,omg,omg,omg,omg,omg,omg,omg,(fun hgd=>⟨rfl,(doS [0,2] 3 (fun R g=>hS R g))⟩),fun c2=>have c2:List.getD t (Int.toNat (List.getD p.rules.l i default).head) false=true/\dK v t (List.getD p.rules.l i default)=true:=⟨(cq c2).1,(cq c2).2⟩;⟨omg,omg,omg,?_⟩,fun c2=>have c2:List.getD t (Int.toNat (List.getD p.rules.l i default).head) false=false∨dK v t (List.getD p.rules.l i default)=false:=((eH c2).imp (fun h=>h) (fun h=>h));⟨omg,?_⟩⟩,fun c1=>have c1:¬(↑i:Int)<(↑(List.length p.rules.l):Int):=(of_decide_eq_false c1);?_⟩
       ·rw[c2.1,c2.2,Bool.and_true,if_pos rfl] at hf
        rw[c2.1,c2.2,Bool.and_true,Bool.or_true] at hc
        refine(aL (i+1) (toL (h1:=⟨Av _,Av _,Av _,(Aw ?_),(Aw krf),trivial⟩) (h2:=⟨Ax,Ax,?_,trivial⟩)) ?_ ?_)
        ·show AV.bool _=AV.bool _
         rw[hc]
        ·exact⟨rfl,Nat.le_refl _,fun j _=>by
          rw[hf]
          exact Aw (y0 omg)⟩
        ·omega
        ·omega
       ·have hb:(t.getD (p.rules.l.getD i default).head.toNat false&&dK v t (p.rules.l.getD i default))=false:=by
         rcases c2 with b|b <;> rw[b] <;> simp
        rw[hb,if_neg dcd] at hf
        rw[hb,Bool.or_false] at hc
        refine(aL (i+1) (toL (h1:=⟨Av _,Av _,Av _,(Aw ?_),(Aw krf),trivial⟩) (h2:=⟨Ax,Ax,?_,trivial⟩)) ?_ ?_)
        ·show AV.bool _=AV.bool _
         rw[hc]
        ·exact⟨rfl,Nat.le_refl _,fun j _=>by
          rw[hf]
          exact Aw rfl⟩
        ·omega
        ·omega
       ·exfalso;omega
      ·have hie:i=p.rules.l.length:=by omega
       subst hie
       rw[List.take_length]
       have hbb:decide ((p.rules.l.length:Int)<(p.rules.l.length:Int))=false:=decide_eq_false omg
       refine vcR [[1,1,1,0,1,0,0,1,0,1,1,0,0,0,1,0]] (lkL [(10,[0,3,5,7,8,32])]) (fun _=>[]) (fun Q=>(fun (u1:Int)=>(fun (u2:St R.σ)=>2<=2/\(decide (u1<u1)=true->WpC Tryd.prog R 60 1 98 [1,1,1,0,1,0,0,1,0,1,1,0,0,0,1,0] Q [Kont.seq [1,1,1,0,1,0,0,1,0,1,1,0,0,1]] u2)/\(decide (u1<u1)=false->Q (AEx.exit 4) u2)) (St.mk [(0,ow true 0 (List.length v) 1),(3,ref 1 0),(5,ow true 2 (List.length v) 1),(7,AV.bool (grCh v p.rules.l s)),(8,int i64 u1),(32,AV.bool (decide (u1<u1)))] [cells false (List.length v*1) fun a=>ab v a,cells false 2 (nth [int i64 p.atoms,ad p.rules]),cells false (List.length v*1) fun a=>ap (bN v s p.rules.l) a] g)) ((↑(List.length p.rules.l):Int))) ⟨omg,fun hcc=>(nomatch (hbb.symm.trans hcc)),fun _=>?_⟩
       refine⟨_,AH _,(aL (bN v s p.rules.l,grCh v p.rules.l s) (aV ⟨Av _,Av _,Av _,Av _,trivial⟩ rfl rfl) ?_ ?_)⟩
       ·exact hnx.1
       ·exact hnx.2
def fw (v:List Int)(r:Rule):Bool:=v.getD r.head.toNat 0==3&&dW v r
def eB (v:List Int)(p:Prg):Int:=aO (fw v) p.rules.l 0
def gy (v:List Int)(p:Prg):List Int:=aA (grR v p) v.length
def ba (v:List Int)(p:Prg):Stp:=if 0<=eB v p then⟨eB v p,[(p.rules.l.getD (eB v p).toNat default).head]⟩ else⟨-1,gy v p⟩
def cv (v:List Int)(p:Prg):Bool:=decide (0<=eB v p)||decide (0<(gy v p).length)
theorem za (R:Res)(v:List Int)(p:Prg)(hv:0<v.length/\v.length<1000000)(hpa:p.atoms=v.length)(hpl:p.rules.l.length<1000000)(hr:∀r,r∈p.rules.l->cu v.length r)(g:R.σ):Does Tryd.prog R 64 [.ow true 0 v.length 1,au p] [.cells false (v.length*1) (ab v)] g (.ret (.tup 2 (nth [.agg 2 (nth [.int .i64 (ba v p).rule,.ow true 1 (ba v p).atoms.length 1]),.bool (cv v p)]))) [.cells false (v.length*1) (ab v),.cells false ((ba v p).atoms.length*1) (ab (ba v p).atoms)] g:=by
 have hroom:ax=140737488355328:=rfl
 refine spW (nt:=46) (rs:=[.cell 4 71,.tmp 5]) (k0:=1) ?_
 refine vcR [] (lkL [(0,[0,3,4]),(1,[0,3,4,6])]) (fun _=>[]) (fun (Q:AEx->St R.σ->Prop)=>WpC Tryd.prog R 46 1 64 [1,0,1,0] Q [Kont.blk 0,Kont.seq [1,1]] (St.mk [(0,ow true 0 (List.length v) 1),(3,ref 1 0),(4,ref 2 0),(6,int i64 0)] [cells false (List.length v*1) fun (a:Nat)=>ab v a,cells false 2 (nth [int i64 p.atoms,ad p.rules]),cells false 2 (nth [int i64 0,fz Fz.nil 0 0 fun (x x_1:Nat)=>any])] g)) (?_)
 refine(aZ krf (fun (i:Nat)=>⟨[(0,ow true 0 (v.length) 1),(3,ref 1 0),(4,ref 2 0),(6,.int .i64 i)],[cells false (v.length*1) fun (a:Nat)=>ab v a,cells false 2 (nth [int i64 p.atoms,ad p.rules]),cells false 2 (nth [int i64 0,fz Fz.nil 0 0 fun _ _=>any])],g⟩) (fun (i:Nat)=>(i<=p.rules.l.length/\eB v p=aO (fw v) (p.rules.l.drop i) i)) (fun (i:Nat)=>(p.rules.l.length-i)) 0 (aV ⟨Av _,Av _,Av _,(Aw krf),trivial⟩ rfl rfl) ?_ (fun i hi=>?_))
 ·exact⟨Nat.zero_le _,rfl⟩
 ·obtain⟨h1,h2⟩:=hi
  rcases Nat.lt_or_ge i p.rules.l.length with hlt|hge
  ·have hm:=hr _ (fV hlt)
   have hm1:=hm.1
   have hm2:=hm.2
   rw[gU p.rules.l default hlt] at h2
   refine vcR [] (lkL [(2,[0,3,4,6,13]),(4,[0,3,4,6,7]),(5,[0,3,4,6,7,31]),(6,[4,5]),(3,[0,3,4,6])]) (lkL [(4,[(6,ROrc.val (Orc.obj (nth [int i64 (List.getD p.rules.l i default).head,ao (List.getD p.rules.l i default).body])))]),(5,[(9,ROrc.kcall (AV.bool (dW v (List.getD p.rules.l i default))))]),(6,[(5,ROrc.val (Orc.obj (nth [int i64 (↑i:Int),sl 4 0 1 1 true 1])))])]) (fun Q=>(fun (u1:Rule)=>(fun (u2:List AObj)=>(fun (u3:Int)=>(fun (u4:Int)=>(fun (u5:Bool)=>(fun (u6:List AV)=>(fun (u7:List AV)=>(fun (u8:List AV)=>(fun (u9:AObj)=>(fun (u10:AObj)=>(fun (u11:AV)=>2<=2/\(decide (u4<u3)=true->2<=2/\(0<=u4/\u4<u3)/\2<=2/\2<=2/\(∀(c:Nat),c<2->nth u7 c=ah (nth u6) 0 2 (List.brecOn (motive:=fun (x:List AV)=>Nat->AV) u7 nth._f) c)/\1<=2/\(0<=u1.head/\u1.head<(↑(List.length v):Int))/\Int.toNat u1.head+1<=List.length v*1/\(u5=true->2<=2)/\(u5=true->true=true/\Does Tryd.prog R 97 [u11,bC u1] u2 g (ret (AV.bool (dW v u1))) u2 g)/\((bif u5 then dW v u1 else false)=true->1<=2/\2<=2/\(∀(c:Nat),c<2->nth u8 c=ah (nth u6) 0 2 (List.brecOn (motive:=fun (x:List AV)=>Nat->AV) u8 nth._f) c)/\Q AEx.ret (St.mk [(4,ref 2 0),(5,AV.bool true)] [u9,u10,cells false 2 (nth u8),cells false 2 (nth u7),cells false 1 (ah (fun (j:Nat)=>int i64 0) 0 1 fun x=>int i64 u1.head)] g))/\((bif u5 then dW v u1 else false)=false->(-9223372036854775808<=u4+1/\u4+1<=9223372036854775807)/\Q AEx.normal (St.mk [(0,u11),(3,ref 1 0),(4,ref 2 0),(6,int i64 (u4+1))] u2 g)))/\(decide (u4<u3)=false->Q (AEx.exit 0) (St.mk [(0,u11),(3,ref 1 0),(4,ref 2 0),(6,int i64 u4),(13,AV.bool (decide (u4<u3)))] [u9,u10,cells false 2 (nth u6)] g))) (ow true 0 (List.length v) 1)) (cells false 2 (nth [int i64 p.atoms,ad p.rules]))) (cells false (List.length v*1) fun a=>ab v a)) ([int i64 u4,sl 4 0 1 1 true 1])) ([int i64 u1.head,ao u1.body])) ([int i64 0,fz Fz.nil 0 0 fun x x_1=>any])) (List.getD v (Int.toNat u1.head) 0==3)) ((↑i:Int))) ((↑(List.length p.rules.l):Int))) ([cells false (List.length v*1) fun a=>ab v a,cells false 2 (nth [int i64 p.atoms,ad p.rules]),cells false 2 (nth [int i64 0,fz Fz.nil 0 0 fun x x_1=>any]),cells false 2 (nth [int i64 u1.head,ao u1.body])])) (List.getD p.rules.l i default)) ⟨omg,fun c1=>have c1:(↑i:Int)<(↑(List.length p.rules.l):Int):=(of_decide_eq_true c1);⟨omg,omg,omg,omg,(fun c hc=>match c,hc with|0,_=>krf|1,_=>krf ),omg,omg,omg,omg,(fun hgd=>⟨rfl,(doS [0] 4 (fun R g=>yI R (v) (List.getD p.rules.l i default) omg g))⟩),fun c2=>have c2:List.getD v (Int.toNat (List.getD p.rules.l i default).head) 0=3/\dW v (List.getD p.rules.l i default)=true:=⟨(beq_iff_eq.mp (cq c2).1),(cq c2).2⟩;⟨omg,omg,(fun c hc=>match c,hc with|0,_=>krf|1,_=>krf ),?_⟩,fun c2=>have c2:¬List.getD v (Int.toNat (List.getD p.rules.l i default).head) 0=3∨dW v (List.getD p.rules.l i default)=false:=((eH c2).imp (fun h=>(beq_eq_false_iff_ne.mp h)) (fun h=>h));⟨omg,?_⟩⟩,fun c1=>have c1:¬(↑i:Int)<(↑(List.length p.rules.l):Int):=(of_decide_eq_false c1);?_⟩
   ·have hf:eB v p=i:=by
     rw[h2]
     exact if_pos (by unfold fw;rw[Bool.and_eq_true,beq_iff_eq];exact c2)
    have hn:ba v p=⟨i,[(p.rules.l.getD i default).head]⟩:=by
     unfold ba
     rw[hf,if_pos omg]
     rfl
    have hb:cv v p=true:=by
     unfold cv
     rw[hf,decide_eq_true omg]
     rfl
    rw[hn,hb]
    refine⟨_,AH _,?_⟩
    show a9 Tryd.prog R 1 _ _ _ _ .ret _
    refine bY (.tup 2 (nth [.agg 2 (nth [.int .i64 i,.sl 4 0 1 1 true 1]),.bool true])) _ rfl (by exact⟨dcd,trivial⟩) (toS [0,4] 5 (hfr:=⟨Az (fun j hj=>match j,hj with|0,_=>AA (fun j hj=>match j,hj with|0,_=>Av _|1,_=>AE dcd)|1,_=>Av _),trivial⟩) (hob:=⟨Ay _,AF (fun j hj=>match j,hj with|0,_=>rfl),trivial⟩))
   ·have hnf:fw v (p.rules.l.getD i default)=false:=by
     unfold fw
     rw[Bool.and_eq_false_iff,beq_eq_false_iff_ne]
     exact c2
    have h3:eB v p=aO (fw v) (p.rules.l.drop (i+1)) (i+1):=by
     rw[h2]
     exact if_neg (by rw[hnf];decide)
    refine(aL (i+1) (toS [0,1,2] 4 (hob:=⟨?_,⟨rfl,Nat.le_refl _,fun j hj=>match j,hj with|0,_=>(Av _)|1,_=>(Av _) ⟩,⟨rfl,Nat.le_refl _,fun j hj=>match j,hj with|0,_=>(Av _)|1,_=>(Av _) ⟩,trivial⟩)) ?_ ?_)
    ·exact⟨rfl,Nat.le_refl _,fun j _=>Aw rfl⟩
    ·exact⟨omg,h3⟩
    ·omega
   ·exfalso;omega
  ·have hie:i=p.rules.l.length:=by omega
   subst hie
   rw[List.drop_length] at h2
   have hf:eB v p = -1:=h2
   have hn:ba v p=⟨-1,gy v p⟩:=by
    unfold ba
    rw[hf,if_neg omg]
   have hb:cv v p=decide (0<(gy v p).length):=by
    unfold cv
    rw[hf,decide_eq_false omg]
    rfl
   rw[hn,hb]
   have hbb:decide ((p.rules.l.length:Int)<(p.rules.l.length:Int))=false:=decide_eq_false omg
   have hul:gy v p=aA (grR v p) v.length:=rfl
   have hln:=j6 (s:=grR v p) (n:=v.length)
   refine vcR [[1,0,1,0,0,0,1,0]] (lkL [(2,[0,3,4,6,13])]) (fun _=>[]) (fun Q=>(fun (u1:Int)=>(fun (u2:St R.σ)=>2<=2/\(decide (u1<u1)=true->WpC Tryd.prog R 46 1 64 [1,0,1,0,0,0,1,0] Q [Kont.seq [1,0,1,0,0,1]] u2)/\(decide (u1<u1)=false->Q (AEx.exit 0) u2)) (St.mk [(0,ow true 0 (List.length v) 1),(3,ref 1 0),(4,ref 2 0),(6,int i64 u1),(13,AV.bool (decide (u1<u1)))] [cells false (List.length v*1) fun a=>ab v a,cells false 2 (nth [int i64 p.atoms,ad p.rules]),cells false 2 (nth [int i64 0,fz Fz.nil 0 0 fun x x_1=>any])] g)) ((↑(List.length p.rules.l):Int))) ⟨omg,fun hcc=>(nomatch (hbb.symm.trans hcc)),fun _=>?_⟩
   refine⟨_,AH _,vcR [] (lkL [(7,[4,8]),(8,[4,5])]) (lkL [(7,[(2,ROrc.call (ow true 3 (List.length (aA (grR v p) (List.length v))) 1) [cells false (List.length v*1) fun (a:Nat)=>ab v a,cells false 2 (nth [int i64 p.atoms,ad p.rules]),cells false 2 (nth [int i64 0,fz Fz.nil 0 0 fun (x x_1:Nat)=>any]),cells false (List.length (aA (grR v p) (List.length v))*1) (ab (aA (grR v p) (List.length v)))] g),(5,ROrc.val (Orc.obj (nth [int i64 (-1),ow true 3 (List.length (aA (grR v p) (List.length v))) 1])))]),(8,[(5,ROrc.val (Orc.obj (nth [int i64 (-1),ow true 3 (List.length (aA (grR v p) (List.length v))) 1])))])]) (fun Q=>(fun (u1:Nat)=>(fun (u2:List AV)=>(fun (u3:List AV)=>(fun (u4:AObj)=>(fun (u5:AObj)=>(fun (u6:AObj)=>2<=2/\(true=true/\Does Tryd.prog R 98 [ow true 0 (List.length v) 1,au p] [u4,u5,cells false 2 (nth u2)] g (ret (ow true 3 u1 1)) [u4,u5,cells false 2 (nth u2),u6] g)/\2<=2/\(∀(c:Nat),c<2->nth u3 c=ah (nth u2) 0 2 (List.brecOn (motive:=fun (x:List AV)=>Nat->AV) u3 nth._f) c)/\Flw Tryd.prog/\2<=2/\2<=2/\2<=2/\(∀(c:Nat),c<2->nth u3 c=ah (nth u2) 0 2 (List.brecOn (motive:=fun (x:List AV)=>Nat->AV) u3 nth._f) c)/\Q AEx.ret (St.mk [(4,ref 2 0),(5,AV.bool (decide ((↑u1:Int) > 0)))] [u4,u5,cells false 2 (nth u3),u6,cells false 2 (nth u3)] g)) (cells false (u1*1) fun a=>ab (aA (grR v p) (List.length v)) a)) (cells false 2 (nth [int i64 p.atoms,ad p.rules]))) (cells false (List.length v*1) fun a=>ab v a)) ([int i64 (-1),ow true 3 u1 1])) ([int i64 0,fz Fz.nil 0 0 fun x x_1=>any])) (List.length (aA (grR v p) (List.length v)))) ⟨omg,⟨rfl,(doS [0] 3 (fun R g=>y9 R (v) (p) omg omg omg omg g))⟩,omg,(fun c hc=>match c,hc with|0,_=>krf|1,_=>krf ),krf,omg,omg,omg,(fun c hc=>match c,hc with|0,_=>krf|1,_=>krf ),?_⟩⟩
   show a9 Tryd.prog R 1 _ _ _ _ .ret _
   refine bY (.tup 2 (nth [.agg 2 (nth [.int .i64 (-1),.ow true 3 (aA (grR v p) v.length).length 1]),.bool (decide (((aA (grR v p) v.length).length:Int) > 0))])) _ rfl (by exact⟨dcd,trivial⟩) (toS [0,3] 5 (hfr:=⟨Az (fun j hj=>match j,hj with|0,_=>AA (fun j hj=>match j,hj with|0,_=>Av _|1,_=>Av _)|1,_=>Aw ?_),trivial⟩) (hob:=⟨Ay _,Ay _,trivial⟩))
   show AV.bool _=AV.bool _
   congr 1
   exact decide_eq_decide.2 (by rw[hul];omega)
theorem zb {v:List Int}{p:Prg}:(ba v p).atoms.length<=v.length+1:=by
 unfold ba
 split
 ·simp
 ·have:=j6 (s:=grR v p) (n:=v.length)
  unfold gy
  show(aA _ _).length<=_
  omega
theorem sn (R:Res)(v:List Int)(p:Prg)(hv:0<v.length/\v.length<1000000)(hpa:p.atoms=v.length)(hpl:p.rules.l.length<1000000)(hr:∀r,r∈p.rules.l->cu v.length r)(g:R.σ):Does Tryd.prog R 64 [.ow true 0 v.length 1,au p] [.cells false (v.length*1) (ab v)] g (.ret (.tup 2 (nth [cQ (cf (ba v p)),.bool (cv v p)]))) [.cells false (v.length*1) (ab v)] g:=by
 refine eK (za R v p hv hpa hpl hr g) ?_
 refine fo 1 [(0,.tup 2 (nth [cQ (cf (ba v p)),.bool (cv v p)]))] (Nat.le_refl _) (by show 1<=2;omega) (fun i hi=>?_) ⟨aq.tup (fun j hj=>?_),trivial⟩
 ·match i,hi with
  |0,_=>exact fun j hj=>dG _ _
 ·match j,hj with
  |0,_=>exact aq.agg (fun j hj=>match j,hj with|0,_=>AC trivial|1,_=>rH rfl (Nat.le_refl _))
  |1,_=>exact AC trivial
def bO (l:List Stp):Nat->AV:=fun c=>bif Nat.beq (c%2) 0 then .int .i64 (l.getD (c/2) default).rule else aj ⟨(l.getD (c/2) default).atoms,.auto⟩
theorem lm {k:Nat}(l:List Stp)(j:Nat):Below k (bO l j):=by
 unfold bO
 cases Nat.beq (j%2) 0 <;> trivial
theorem lq {f:Nat->Nat}(h:True){l:List Stp}{j:Nat}:aN f (bO l j)=bO l j:=by
 unfold bO
 cases Nat.beq (j%2) 0 with
 |true=>rfl
 |false=>rfl
theorem zc {l:List Stp}{t:Stp}{s:Step}(hs:s=cf t){z:Nat->AV}{c:Nat}(hc:c<(l.length+1)*2):bO (l++[t]) c=aS 2 l.length (fun i j=>bO l (i*2+j)) (fun i j=>ah z 0 2 (nth [.int .i64 s.rule,aj s.atoms]) (0+i*2+j)) c:=by
 subst hs
 unfold aS
 by_cases h:c<l.length*2
 ·rw[if_pos h]
  show bO (l++[t]) c=bO l (c/2*2+c%2)
  rw[show c/2*2+c%2=c by omega]
  unfold bO
  rw[jU,if_neg omg]
 ·rw[if_neg h]
  show bO (l++[t]) c=ah z 0 2 _ (0+(c-l.length*2)/2*2+(c-l.length*2)%2)
  rw[cA,if_pos omg]
  unfold bO
  rw[jU,if_pos omg]
  have hj:0+(c-l.length*2)/2*2+(c-l.length*2)%2-0=c%2:=by omega
  rw[hj]
  have:c%2<2:=Nat.mod_lt _ dcd
  match c%2,this with
  |0,_=>rfl
  |1,_=>rfl
def fx (p:Prg):Nat->List Int->List Stp->List Stp × List Int
 |0,v,l=>(l,v)
 |n+1,v,l=>if cv v p then fx p n (eT v (cf (ba v p))) (l++[ba v p]) else(l,v)
def cM (p:Prg)(n:Nat):List Stp × List Int:=fx p (n+1) (List.replicate n 3) []
def cF (v:List Int):Nat:=v.count 3
theorem zd {s:List Bool}{n:Nat}{a:Int}:a∈aA s n↔∃k:Nat,k<n/\s.getD k false=true/\a=k:=by
 unfold aA
 rw[List.mem_map]
 constructor
 ·rintro ⟨k,hk,rfl⟩
  obtain⟨h1,h2⟩:=List.mem_filter.1 hk
  exact⟨k,List.mem_range.1 h1,h2,rfl⟩
 ·rintro ⟨k,h1,h2,rfl⟩
  exact⟨k,List.mem_filter.2 ⟨List.mem_range.2 h1,h2⟩,rfl⟩
def oB (s t:List Bool):Prop:=∀k,s.getD k false=true->t.getD k false=true
theorem ze {s:List Bool}{i:Nat}:oB (s.set i false) s:=fun k h=>by
 rw[List.getD_eq_getElem?_getD,List.getElem?_set] at h
 split at h
 ·split at h <;> cases h
 ·rw[List.getD_eq_getElem?_getD];exact h
theorem so {v:List Int}:∀{l:List Rule} {s:List Bool},oB (bN v s l) s
 |[],_=>fun _ h=>h
 |r::l,s=>fun k h=>by
  have h:=so (v:=v) (l:=l) (s:=cn v s r) k h
  unfold cn at h
  split at h
  ·exact ze k h
  ·exact h
theorem sq {v:List Int}{p:Prg}:∀{n:Nat} {s:List Bool},oB (ej v p n s) s
 |0,_=>fun _ h=>h
 |n+1,s=>fun k h=>by
  have h:(if grCh v p.rules.l s then ej v p n (bN v s p.rules.l) else s).getD k false=true:=h
  split at h
  ·exact so k (sq k h)
  ·exact h
theorem sr {v:List Int}{p:Prg}{k:Nat}(h:(grR v p).getD k false=true):v.getD k 0=3:=by
 have h:=sq k h
 unfold dX at h
 rw[List.getD_eq_getElem?_getD,List.getElem?_map] at h
 rw[List.getD_eq_getElem?_getD]
 cases hx:v[k]? with
 |none=>rw[hx] at h;cases h
 |some x=>rw[hx] at h;simpa using h
theorem su {x:Int}(hx:x≠3):∀{v:List Int} {i:Nat},cF (v.set i x)<=cF v/\(v.getD i 0=3->cF (v.set i x)<cF v)
 |[],i=>⟨Nat.le_refl _,fun h=>absurd h (by simp)⟩
 |y::v,0=>by
  unfold cF
  rw[List.set_cons_zero,List.count_cons,List.count_cons,if_neg (by simpa using hx)]
  refine⟨omg,fun h=>?_⟩
  have h:y=3:=h
  rw[if_pos (by simpa using h)]
  omega
 |y::v,i+1=>by
  obtain⟨h1,h2⟩:=su hx (v:=v) (i:=i)
  unfold cF at h1 h2 ⊢
  rw[List.set_cons_succ,List.count_cons,List.count_cons]
  exact⟨omg,fun h=>by have:=h2 (by simpa using h);omega⟩
theorem sw {x:Int}(hx:x≠3):∀{l v:List Int},cF (dx x v l)<=cF v/\((∃a l',l=a::l'/\v.getD a.toNat 0=3)->cF (dx x v l)<cF v)
 |[],v=>⟨Nat.le_refl _,fun ⟨a,l',h,_⟩=>by cases h⟩
 |a::l,v=>by
  have h1:=(sw hx (l:=l) (v:=v.set a.toNat x)).1
  obtain⟨h2,h3⟩:=su hx (v:=v) (i:=a.toNat)
  refine⟨Nat.le_trans h1 h2,fun ⟨b,l',e,h⟩=>?_⟩
  cases e
  exact Nat.lt_of_le_of_lt h1 (h3 h)
theorem sx {v:List Int}{p:Prg}(hr:∀r,r∈p.rules.l->cu v.length r):∀a,a∈(ba v p).atoms->0<=a/\a<v.length/\v.getD a.toNat 0=3:=by
 intro a ha
 unfold ba at ha
 split at ha
 ·rename_i h
  obtain⟨k,h1,h2,h3,_⟩:=iV (fw v) default p.rules.l 0 h
  have hf:(eB v p).toNat=k:=by unfold eB;rw[h2];simp
  have hm:=(hr _ (bZ p.rules.l default h1)).2
  have ha:a=(p.rules.l.getD (eB v p).toNat default).head:=by simpa using ha
  rw[hf] at ha
  unfold fw at h3
  rw[Bool.and_eq_true,beq_iff_eq] at h3
  rw[ha]
  exact⟨hm.1,hm.2,h3.1⟩
 ·obtain⟨k,h1,h2,rfl⟩:=zd.1 (show a∈aA (grR v p) v.length from ha)
  exact⟨omg,omg,by simpa using sr h2⟩
theorem zf (s:Step):cZ s≠3:=by
 unfold cZ
 split <;> decide
theorem sy {v:List Int}{p:Prg}(hr:∀r,r∈p.rules.l->cu v.length r)(hb:cv v p=true):cF (eT v (cf (ba v p)))<cF v:=by
 refine(sw (zf _)).2 ?_
 have hne:0<(ba v p).atoms.length:=by
  unfold cv at hb
  unfold ba
  split
  ·exact Nat.zero_lt_one
  ·rename_i h
   rw[decide_eq_false h,Bool.false_or,decide_eq_true_eq] at hb
   exact hb
 cases hl:(ba v p).atoms with
 |nil=>rw[hl] at hne;cases hne
 |cons a l=>exact⟨a,l,hl,(sx hr a (by rw[hl];exact List.mem_cons_self)).2.2⟩
structure DerOk (p:Prg)(n:Nat)(x:Nat × List Int × List Stp × Step × Bool):Prop where
 num:x.1=x.2.2.1.length
 len:x.2.1.length=n
 step:x.2.2.2.1=cf (ba x.2.1 p)
 is:x.2.2.2.2=cv x.2.1 p
 few:x.1+cF x.2.1<=n
 der:∃f,cF x.2.1<f/\fx p f x.2.1 x.2.2.1=cM p n
theorem zg (R:Res)(p:Prg)(n:Nat)(hn:0<n/\n<=1000)(hpa:p.atoms=n)(hpl:p.rules.l.length<1000000)(hr:∀r,r∈p.rules.l->cu n r)(g:R.σ):Does Tryd.prog R 19 [au p] [] g (.ret (.tup 2 (nth [.ow true 0 (cM p n).1.length 2,.ow true 1 n 1]))) [.cells false ((cM p n).1.length*2) (bO (cM p n).1),.cells false (n*1) (ab (cM p n).2)] g:=by
 have hroom:ax=140737488355328:=rfl
 refine spW (nt:=33) (rs:=[.tmp 2,.tmp 3]) (k0:=0) ?_
 have hO:=fun (R:Res) (g:R.σ)=>yM R n hn g
 simp only[<-hpa] at hO
 obtain⟨v0,hv0⟩:∃v0,List.replicate n (3:Int)=v0:=⟨_,rfl⟩
 rw[hv0] at hO
 have h3l:v0.length=n:=by rw[<-hv0];exact List.length_replicate
 have hN:∀(R:Res) (g:R.σ),Does Tryd.prog R 64 [.ow true 0 v0.length 1,au p] [.cells false (v0.length*1) (ab v0)] g (.ret (.tup 2 (nth [.agg 2 (nth [.int .i64 (cf (ba v0 p)).rule,aj (cf (ba v0 p)).atoms]),.bool (cv v0 p)]))) [.cells false (v0.length*1) (ab v0)] g:=fun (R:Res) (g:R.σ)=>sn R v0 p omg (by rw[h3l];exact hpa) hpl (by rw[h3l];exact hr) g
 obtain⟨s0,hs0⟩:∃s,s=cf (ba v0 p):=⟨_,rfl⟩
 obtain⟨b0,hb0⟩:∃b,b=cv v0 p:=⟨_,rfl⟩
 simp only[h3l,<-hs0,<-hb0] at hN
 refine vcR [] (lkL [(0,[1]),(1,[1,4]),(2,[1,4,5]),(3,[1,4,5,6,7])]) (lkL [(1,[(2,ROrc.call (ow true 1 n 1) [cells false 2 (nth [int i64 p.atoms,ad p.rules]),cells false (n*1) (ab v0)] g)]),(3,[(2,ROrc.kcall (tup 2 (nth [agg 2 (nth [int i64 s0.rule,fz s0.atoms.2 1 (List.length s0.atoms.l) fun (i x:Nat)=>ab s0.atoms.l i]),AV.bool b0]))),(7,ROrc.val (Orc.obj (nth [int i64 s0.rule,fz s0.atoms.2 1 (List.length s0.atoms.l) fun (i x:Nat)=>ab s0.atoms.l i])))])]) (fun Q=>(fun (u1:List AV)=>(fun (u2:AObj)=>(fun (u3:AObj)=>1<=2/\(true=true/\Does Tryd.prog R 63 [int i64 p.atoms] [u2] g (ret (ow true 1 n 1)) [u2,u3] g)/\2<=2/\(true=true/\Does Tryd.prog R 64 [ow true 1 n 1,au p] [u2,u3] g (ret (tup 2 (nth [agg 2 (nth u1),AV.bool b0]))) [u2,u3] g)/\2<=2/\(∀(c:Nat),c<2->nth u1 c=ah (nth [int i64 0,fz Fz.nil 0 0 fun x x_1=>any]) 0 2 (List.brecOn (motive:=fun (x:List AV)=>Nat->AV) u1 nth._f) c)/\WpC Tryd.prog R 33 0 19 [1,1,1,1,0,0] Q [Kont.blk 0,Kont.seq [1,1,1,1,1]] (St.mk [(1,ref 0 0),(4,ow true 1 n 1),(5,fz Fz.nil 0 0 fun x x_1=>any),(6,ref 2 0),(7,AV.bool b0)] [u2,u3,cells false 2 (nth u1)] g)) (cells false (n*1) fun a=>ab v0 a)) (cells false 2 (nth [int i64 p.atoms,ad p.rules]))) ([int i64 s0.rule,fz s0.atoms.2 1 (List.length s0.atoms.l) fun i x=>ab s0.atoms.l i])) ⟨omg,⟨rfl,(doS [] 1 (fun R g=>hO R g))⟩,omg,⟨rfl,(doS [1] 2 (fun R g=>hN R g))⟩,omg,(fun c hc=>match c,hc with|0,_=>krf|1,_=>krf ),?_⟩
 refine br (eO (fun _=>.any) 1) ?_
 refine(aZ krf (fun (x:Nat × List Int × List Stp × Step × Bool)=>⟨[(1,ref 0 0),(4,.ow true 1 n 1),(5,.ow true 3 x.1 2),(6,ref 2 0),(7,.bool x.2.2.2.2)],[.cells false 2 (nth [.int .i64 p.atoms,ad p.rules]),.cells false (n*1) (ab x.2.1),.cells false 2 (nth [.int .i64 x.2.2.2.1.rule,aj x.2.2.2.1.atoms]),.cells false (x.1*2) (bO x.2.2.1)],g⟩) (fun (x:Nat × List Int × List Stp × Step × Bool)=>(DerOk p n x)) (fun (x:Nat × List Int × List Stp × Step × Bool)=>(cF x.2.1)) (0,v0,[],s0,b0) (toL (h1:=⟨Av _,Av _,Le.nil_ow,Av _,Av _,trivial⟩) (h2:=⟨Ax,Ax,Ax,⟨rfl,Nat.le_refl _,fun j hj=>absurd hj (Nat.not_lt_zero j)⟩,trivial⟩)) ?_ (fun x hi=>?_))
 ·refine⟨rfl,h3l,hs0,hb0,?_,n+1,?_,?_⟩
  ·show 0+cF v0<=n
   rw[Nat.zero_add,<-h3l]
   exact List.count_le_length
  ·refine Nat.lt_succ_of_le ?_
   show cF v0<=n
   rw[<-h3l]
   exact List.count_le_length
  ·unfold cM
   rw[hv0]
 ·obtain⟨m,v,l,s,b⟩:=x
  obtain⟨h0,h1,h2,h3,h4,h5⟩:=hi
  simp only at h0 h1 h2 h3 h4 h5
  have hln:m<1000000:=by omega
  cases b with
  |true=>
   obtain⟨w,hw⟩:∃w,eT v s=w:=⟨_,rfl⟩
   have hwl:w.length=n:=by rw[<-hw];exact j7.trans h1
   have hat:s.atoms.l.length<1000000:=by
    rw[h2]
    have:=zb (v:=v) (p:=p)
    show(ba v p).atoms.length<_
    omega
   have hra:=sx (v:=v) (p:=p) (by rw[h1];exact hr)
   have hin:∀i,i<s.atoms.l.length->0<=s.atoms.l.getD i 0/\s.atoms.l.getD i 0<v.length:=fun i hi=>by
    have:=hra (s.atoms.l.getD i 0) (by rw[h2] at hi ⊢;exact bZ _ 0 hi)
    exact⟨this.1,this.2.1⟩
   have hlt:=sy (v:=v) (p:=p) (by rw[h1];exact hr) h3.symm
   rw[<-h2,hw] at hlt
   have hA:=fun (R:Res) (g:R.σ)=>yP R v s omg hat hin g
   have hN:∀(R:Res) (g:R.σ),Does Tryd.prog R 64 [.ow true 0 w.length 1,au p] [.cells false (w.length*1) (ab w)] g (.ret (.tup 2 (nth [.agg 2 (nth [.int .i64 (cf (ba w p)).rule,aj (cf (ba w p)).atoms]),.bool (cv w p)]))) [.cells false (w.length*1) (ab w)] g:=fun (R:Res) (g:R.σ)=>sn R w p omg (by rw[hwl];exact hpa) hpl (by rw[hwl];exact hr) g
   obtain⟨s1,hs1⟩:∃s,s=cf (ba w p):=⟨_,rfl⟩
   obtain⟨b1,hb1⟩:∃b,b=cv w p:=⟨_,rfl⟩
   simp only[hwl,<-hs1,<-hb1] at hN
   simp only[h1,hw] at hA
   refine vcR [[1,1,1,1,0,0,0,0,1,1]] (lkL [(4,[1,4,5,6,17]),(5,[1,4,5,6]),(6,[1,4,5,6]),(7,[1,4,5,6,7])]) (lkL [(5,[(3,ROrc.val (Orc.obj (bO (l++[ba v p]))))]),(6,[(2,ROrc.call (ow true 6 n 1) [cells false 2 (nth [int i64 p.atoms,ad p.rules]),cells false (n*1) fun (a:Nat)=>ab v a,cells false 2 (nth [int i64 s.rule,fz s.atoms.2 1 (List.length s.atoms.l) fun (i x:Nat)=>ab s.atoms.l i]),dead,cells false 2 (ah (fun (j:Nat)=>nth [int i64 0,fz Fz.nil 0 0 fun (x x_1:Nat)=>any] (j%2)) 0 2 (List.brecOn (motive:=fun (x:List AV)=>Nat->AV) [int i64 s.rule,fz s.atoms.2 1 (List.length s.atoms.l) fun (i x:Nat)=>ab s.atoms.l i] nth._f)),cells false ((m+1)*2) (bO (l++[ba v p])),cells false (n*1) (ab w)] g)]),(7,[(2,ROrc.kcall (tup 2 (nth [agg 2 (nth [int i64 s1.rule,fz s1.atoms.2 1 (List.length s1.atoms.l) fun (i x:Nat)=>ab s1.atoms.l i]),AV.bool b1]))),(6,ROrc.val (Orc.obj (nth [int i64 s1.rule,fz s1.atoms.2 1 (List.length s1.atoms.l) fun (i x:Nat)=>ab s1.atoms.l i])))])]) (fun Q=>(fun (u1:List AObj)=>(fun (u2:List AV)=>(fun (u3:List AV)=>(fun (u4:AObj)=>(fun (u5:AObj)=>(fun (u6:AObj)=>(true=true->2<=2/\0<2/\(m+1)*32<=ax/\m+1<=ax/\2<=2/\m*2<=m*2/\(∀(c:Nat),c<(m+1)*2->bO (l++[ba v p]) c=aS 2 m (fun (i j:Nat)=>bO l (i*2+j)) (fun (i j:Nat)=>ah (fun (j:Nat)=>nth [int i64 0,fz Fz.nil 0 0 fun x x_1=>any] (j%2)) 0 2 (List.brecOn (motive:=fun (x:List AV)=>Nat->AV) u2 nth._f) (0+i*2+j)) c)/\2<=2/\(true=true/\Does Tryd.prog R 65 [ow true 1 n 1,agg 2 (nth u2)] [u5,u6,cells false 2 (nth u2),dead,u4,cells false ((m+1)*2) (bO (l++[ba v p]))] g (ret (ow true 6 n 1)) u1 g)/\2<=2/\(true=true/\Does Tryd.prog R 64 [ow true 6 n 1,au p] u1 g (ret (tup 2 (nth [agg 2 (nth u3),AV.bool b1]))) u1 g)/\2<=2/\(∀(c:Nat),c<2->nth u3 c=ah (nth u2) 0 2 (List.brecOn (motive:=fun (x:List AV)=>Nat->AV) u3 nth._f) c)/\Q AEx.normal (St.mk [(1,ref 0 0),(4,ow true 6 n 1),(5,ow true 5 (m+1) 2),(6,ref 2 0),(7,AV.bool b1)] [u5,u6,cells false 2 (nth u3),dead,u4,cells false ((m+1)*2) (bO (l++[ba v p])),cells false (n*1) fun a=>ab w a] g))/\(true=false->WpC Tryd.prog R 33 0 19 [1,1,1,1,0,0,0,0,1,1] Q [Kont.seq [1,1,1,1,0,0,0,1]] (St.mk [(1,ref 0 0),(4,ow true 1 n 1),(5,ow true 3 m 2),(6,ref 2 0),(17,AV.bool true)] [u5,u6,cells false 2 (nth u2),cells false (m*2) (bO l)] g))) (cells false (n*1) fun a=>ab v a)) (cells false 2 (nth [int i64 p.atoms,ad p.rules]))) (cells false 2 (ah (fun (j:Nat)=>nth [int i64 0,fz Fz.nil 0 0 fun x x_1=>any] (j%2)) 0 2 (List.brecOn (motive:=fun (x:List AV)=>Nat->AV) u2 nth._f)))) ([int i64 s1.rule,fz s1.atoms.2 1 (List.length s1.atoms.l) fun i x=>ab s1.atoms.l i])) ([int i64 s.rule,fz s.atoms.2 1 (List.length s.atoms.l) fun i x=>ab s.atoms.l i])) ([cells false 2 (nth [int i64 p.atoms,ad p.rules]),cells false (n*1) fun a=>ab v a,cells false 2 (nth [int i64 s.rule,fz s.atoms.2 1 (List.length s.atoms.l) fun i x=>ab s.atoms.l i]),dead,cells false 2 (ah (fun (j:Nat)=>nth [int i64 0,fz Fz.nil 0 0 fun x x_1=>any] (j%2)) 0 2 (List.brecOn (motive:=fun (x:List AV)=>Nat->AV) [int i64 s.rule,fz s.atoms.2 1 (List.length s.atoms.l) fun i x=>ab s.atoms.l i] nth._f)),cells false ((m+1)*2) (bO (l++[ba v p])),cells false (n*1) fun a=>ab w a])) ⟨fun _=>⟨omg,omg,omg,omg,omg,omg,?_,omg,⟨rfl,(doS [1] 6 (fun R g=>hA R g))⟩,omg,⟨rfl,(doS [6] 7 (fun R g=>hN R g))⟩,omg,(fun c hc=>match c,hc with|0,_=>krf|1,_=>krf ),?_⟩,fun h=>(nomatch h)⟩
   ·intro c hc
    rw[h0] at hc ⊢
    exact(zc (z:=fun j=>nth [.int .i64 0,.fz .nil 0 0 fun _ _=>.any] (j%2)) h2 hc).trans krf
   ·refine(aL (m+1,w,l++[ba v p],s1,b1) (toS [0,6,2,5] 7 (hob:=⟨⟨rfl,Nat.le_refl _,fun j hj=>match j,hj with|0,_=>(Av _)|1,_=>(Av _) ⟩,?_,⟨rfl,Nat.le_refl _,fun j hj=>match j,hj with|0,_=>(Av _)|1,_=>(Av _) ⟩,⟨by first|rfl|(simp;done),by first|exact Nat.le_refl _|(simp;done)|(simp;omega),fun j hj=>(by first|exact bu (by first|exact trivial|apply lm)|exact Aw (lq rfl).symm)⟩,trivial⟩)) ?_ ?_)
    ·exact⟨rfl,Nat.le_refl _,fun j _=>Aw rfl⟩
    ·refine⟨?_,hwl,hs1,hb1,?_,?_⟩
     ·show m+1=(l++[ba v p]).length
      rw[List.length_append,h0]
      rfl
     ·show m+1+cF w<=n
      omega
     ·obtain⟨f,f1,f2⟩:=h5
      obtain⟨f,rfl⟩:∃k,f=k+1:=⟨f-1,omg⟩
      refine⟨f,by show cF w<f;omega,?_⟩
      rw[<-f2]
      show fx p f w (l++[ba v p])=(if cv v p then _ else _)
      rw[<-h3,if_pos rfl,<-hw,h2]
    ·exact hlt
  |false=>
   have e:cM p n=(l,v):=by
    obtain⟨f,f1,f2⟩:=h5
    obtain⟨f,rfl⟩:∃k,f=k+1:=⟨f-1,omg⟩
    rw[<-f2]
    show(if cv v p then _ else _)=_
    rw[<-h3]
    rfl
   rw[e]
   subst h0
   refine vcR [[1,1,1,1,0,0,0,0,1,0]] (lkL [(4,[1,4,5,6,17])]) (fun _=>[]) (fun Q=>(fun (u1:St R.σ)=>(false=true->WpC Tryd.prog R 33 0 19 [1,1,1,1,0,0,0,0,1,0] Q [Kont.seq [1,1,1,1,0,0,0,1]] u1)/\(false=false->Q (AEx.exit 0) u1)) (St.mk [(1,ref 0 0),(4,ow true 1 n 1),(5,ow true 3 (List.length l) 2),(6,ref 2 0),(17,AV.bool false)] [cells false 2 (nth [int i64 p.atoms,ad p.rules]),cells false (n*1) fun a=>ab v a,cells false 2 (nth [int i64 s.rule,fz s.atoms.2 1 (List.length s.atoms.l) fun i x=>ab s.atoms.l i]),cells false (List.length l*2) (bO l)] g)) ⟨fun h=>(nomatch h),fun _=>?_⟩
   refine⟨_,AH _,vcR [] (lkL [(8,[2,3])]) (fun _=>[]) (fun (Q:AEx->St R.σ->Prop)=>Q AEx.ret (St.mk [(2,ow true 3 (List.length l) 2),(3,ow true 1 n 1)] [cells false 2 (nth [int i64 p.atoms,ad p.rules]),cells false (n*1) fun (a:Nat)=>ab v a,cells false 2 (nth [int i64 s.rule,fz s.atoms.2 1 (List.length s.atoms.l) fun (i x:Nat)=>ab s.atoms.l i]),cells false (List.length l*2) (bO l)] g)) (?_)⟩
   show a9 Tryd.prog R 0 _ _ _ _ .ret _
   exact bY (.tup 2 (nth [.ow true 3 l.length 2,.ow true 1 n 1])) _ rfl trivial (toS (s':=⟨[(0,.tup 2 (nth [.ow true 0 l.length 2,.ow true 1 n 1]))],[.cells false (l.length*2) (bO l),.cells false (n*1) (ab v)],g⟩) [3,1] 4 (hob:=⟨AF (fun j hj=>(lq trivial).symm),Ay _,trivial⟩))
theorem oC {hp:List AObj}{k m o:Nat}{l:List Int}{n:Nat}(hn:l.length=n)(ho:af hp o=.cells false (n*1) (ab l))(hk:k<=o):aq hp k m (.ow true o n 1) (aj ⟨l,.auto⟩):=by
 subst hn
 exact(aq.ow ho hk (Nat.le_refl _) dcd (fun j _=>AC (dG _ _))).le (AB rfl (fun i j hi hj=>by
  show AV.int .i64 _=_
  rw[show i*1+j=i by omega]))
theorem zh {hp:List AObj}{k m o:Nat}{l:List Stp}(ho:af hp o=.cells false (l.length*2) (bO l))(hk:k<=o):aq hp k m (.ow true o l.length 2) (aQ (bl l)):=
 (aq.ow ho hk (Nat.le_refl _) dcd (fun j _=>AC (lm _ _))).le (AB (oi _).symm (fun i j hi hj=>by
  show bO l (i*2+j)=dR _ j
  rw[rG hi]
  unfold bO
  rw[show(i*2+j)%2=j by omega,show(i*2+j)/2=i by omega]
  match j,hj with
  |0,_=>rfl
  |1,_=>rfl))
theorem sz {p:Prg}:∀{f:Nat} {v:List Int} {l:List Stp},(fx p f v l).2.length=v.length
 |0,_,_=>rfl
 |f+1,v,l=>by
  show(if cv v p then fx p f (eT v (cf (ba v p))) (l++[ba v p]) else(l,v)).2.length=_
  split
  ·rw[sz];exact j7
  ·rfl
theorem sA {p:Prg}{n:Nat}:(cM p n).2.length=n:=sz.trans List.length_replicate
theorem zi (R:Res)(p:Prg)(n:Nat)(hn:0<n/\n<=1000)(hpa:p.atoms=n)(hpl:p.rules.l.length<1000000)(hr:∀r,r∈p.rules.l->cu n r)(g:R.σ):Does Tryd.prog R 19 [au p] [] g (.ret (.tup 2 (nth [aQ (bl (cM p n).1),aj ⟨(cM p n).2,.auto⟩]))) [] g:=by
 refine eK (zg R p n hn hpa hpl hr g) ?_
 refine fo 0 [(0,.tup 2 (nth [aQ (bl (cM p n).1),aj ⟨(cM p n).2,.auto⟩]))] (Nat.le_refl _) (Nat.zero_le _) (fun i hi=>absurd hi (Nat.not_lt_zero i)) ⟨aq.tup (fun j hj=>?_),trivial⟩
 match j,hj with
 |0,_=>exact zh rfl (Nat.zero_le _)
 |1,_=>exact oC sA rfl (Nat.zero_le _)
end Go.Avm.Pack
