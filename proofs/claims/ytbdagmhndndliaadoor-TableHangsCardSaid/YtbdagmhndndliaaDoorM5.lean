/- Part 5 of the proof: lemmas. -/
import Derived.Test.YtbdagmhndndliaaDoorM4
namespace Go.Avm.Pack
open Go Go.Avm Go.Proofs
open Go.IntKind (i64 u64)
open Go.Avm.AV (int bool any fz fp sl ow ref fn ifc val agg tup)
open Go.Avm.AObj (cells dead)
open Go.Avm.Oc (ret)
set_option maxRecDepth 4000
def hgL (x:List Bool × Bool)(l:Lit):List Bool × Bool:=if x.1.getD l.atom.toNat false then x else(x.1.set l.atom.toNat true,true)
def hgU (x:List Bool × Bool)(r:Rule):List Bool × Bool:=if x.1.getD r.head.toNat false then r.body.l.foldl hgL x else x
def hgD (p:Prg)(s:List Bool):List Bool × Bool:=p.rules.l.foldl hgU (s,false)
def hgI (p:Prg):Nat->List Bool->List Bool
 |0,s=>s
 |k+1,s=>if (hgD p s).2 then hgI p k (hgD p s).1 else s
def hgR (p:Prg)(n a:Nat):List Bool:=hgI p (n+1) ((List.replicate n false).set a true)
def ce (s:List Bool):Nat:=s.count false
theorem xI {s:List Bool}:∀{i:Nat},i<s.length->s.getD i false=false->ce (s.set i true)+1=ce s:=by
 induction s with
 |nil=>exact fun h=>absurd h (Nat.not_lt_zero _)
 |cons b s ih=>
  intro i hi h
  cases i with
  |zero=>
   cases b with
   |true=>exact absurd h (by simp)
   |false=>unfold ce;simp
  |succ i=>
   have ih:=ih (i:=i) (by simpa using hi) (by simpa using h)
   unfold ce at ih ⊢
   rw[List.set_cons_succ,List.count_cons,List.count_cons]
   omega
structure HgS (x y:List Bool × Bool):Prop where
 len:y.1.length=x.1.length
 up:∀k,x.1.getD k false=true->y.1.getD k false=true
 ch:x.2=true->y.2=true
 cnt:ce y.1<=ce x.1
 less:y.2=true->x.2=false->ce y.1<ce x.1
 same:y.2=false->y.1=x.1
theorem HgS.refl (x:List Bool × Bool):HgS x x:=⟨rfl,fun _ h=>h,fun h=>h,Nat.le_refl _,fun h1 h2=>absurd (h1.symm.trans h2) (by decide),fun _=>rfl⟩
theorem HgS.trans {x y z:List Bool × Bool}(h:HgS x y)(k:HgS y z):HgS x z:=by
 refine⟨k.len.trans h.len,fun j hj=>k.up j (h.up j hj),fun hx=>k.ch (h.ch hx),Nat.le_trans k.cnt h.cnt,fun h1 h2=>?_,fun h1=>?_⟩
 ·cases hy:y.2 with
  |true=>exact Nat.lt_of_le_of_lt k.cnt (h.less hy h2)
  |false=>exact Nat.lt_of_lt_of_le (k.less h1 hy) h.cnt
 ·have hy:y.2=false:=by
   cases hy:y.2 with
   |false=>rfl
   |true=>rw[k.ch hy] at h1;cases h1
  exact(k.same h1).trans (h.same hy)
theorem rr {s:List Bool}{i k:Nat}(h:s.getD k false=true):(s.set i true).getD k false=true:=by
 rw[List.getD_eq_getElem?_getD] at h ⊢
 rw[List.getElem?_set]
 split
 ·split
  ·rfl
  ·rename_i e hn
   subst e
   rw[List.getElem?_eq_none (by omega)] at h
   cases h
 ·exact h
theorem xJ {u:List Bool}{d:Bool}{l:Lit}:hgL (u,d) l=if u.getD l.atom.toNat false=true then(u,d) else(u.set l.atom.toNat true,true):=rfl
theorem rt {x:List Bool × Bool}{l:Lit}(h:l.atom.toNat<x.1.length):HgS x (hgL x l):=by
 unfold hgL
 by_cases hb:x.1.getD l.atom.toNat false=true
 ·rw[if_pos hb];exact HgS.refl x
 ·rw[if_neg hb]
  have:=xI h (by simpa using hb)
  exact⟨List.length_set,fun k hk=>rr hk,fun _=>rfl,by show ce (x.1.set _ true)<=_;omega,fun _ _=>by show ce (x.1.set _ true)<_;omega,fun h=>by cases h⟩
theorem kW:∀{l:List Lit} {x:List Bool × Bool},(∀y,y∈l->y.atom.toNat<x.1.length)->HgS x (l.foldl hgL x)
 |[],x,_=>HgS.refl x
 |y::l,x,h=>by
  have h1:=rt (x:=x) (h y List.mem_cons_self)
  exact h1.trans (kW (fun z hz=>by rw[h1.len];exact h z (List.mem_cons_of_mem _ hz)))
theorem ru {n:Nat}{l:List Lit}(h:∀y,y∈l->0<=y.atom/\y.atom<n):∀y,y∈l->y.atom.toNat<n:=fun y hy=>by have:=h y hy;omega
theorem rx {x:List Bool × Bool}{r:Rule}(h:dF x.1.length r):HgS x (hgU x r):=by
 unfold hgU
 split
 ·exact kW (ru h.2)
 ·exact HgS.refl x
theorem gE:∀{l:List Rule} {x:List Bool × Bool},(∀r,r∈l->dF x.1.length r)->HgS x (l.foldl hgU x)
 |[],x,_=>HgS.refl x
 |r::l,x,h=>by
  have h1:=rx (x:=x) (h r List.mem_cons_self)
  exact h1.trans (gE (fun q hq=>by rw[h1.len];exact h q (List.mem_cons_of_mem _ hq)))
structure HgOk (p:Prg)(n a:Nat)(x:List Bool × Bool):Prop where
 len:x.1.length=n
 go:x.2=true->∃f,ce x.1<f/\hgI p f x.1=hgR p n a
 stop:x.2=false->x.1=hgR p n a
theorem xK {p:Prg}{n a:Nat}{s:List Bool}(hr:∀r,r∈p.rules.l->dF n r)(h:HgOk p n a (s,true)):HgOk p n a (hgD p s)/\(if (hgD p s).2 then ce (hgD p s).1+1 else 0)<ce s+1:=by
 obtain⟨h1,h2,_⟩:=h
 obtain⟨f,f1,f2⟩:=h2 rfl
 have f1:ce s<f:=f1
 have h1:s.length=n:=h1
 obtain⟨c1,c2,c3,c4,c5,c6⟩:=gE (l:=p.rules.l) (x:=(s,false)) (by rw[show(s,false).1.length=n from h1];exact hr)
 obtain⟨f,rfl⟩:∃k,f=k+1:=⟨f-1,by omega⟩
 have f3:(if (hgD p s).2 then hgI p f (hgD p s).1 else s)=hgR p n a:=f2
 refine⟨⟨c1.trans h1,fun h=>⟨f,?_,?_⟩,fun h=>?_⟩,?_⟩
 ·have:ce (hgD p s).1<ce s:=c5 h rfl
  omega
 ·rw[if_pos h] at f3
  exact f3
 ·rw[if_neg (by rw[h];decide)] at f3
  exact(c6 h).trans f3
 ·split
  ·rename_i h
   have:ce (hgD p s).1<ce s:=c5 h rfl
   omega
  ·omega
theorem ry {p:Prg}{n:Nat}(hr:∀r,r∈p.rules.l->dF n r):∀{k:Nat} {s:List Bool},s.length=n->(hgI p k s).length=n
 |0,_,h=>h
 |k+1,s,h=>by
  show(if (hgD p s).2 then hgI p k (hgD p s).1 else s).length=n
  split
  ·exact ry hr ((gE (l:=p.rules.l) (x:=(s,false)) (by rw[show(s,false).1.length=n from h];exact hr)).len.trans h)
  ·exact h
theorem js {p:Prg}{n a:Nat}(hr:∀r,r∈p.rules.l->dF n r):(hgR p n a).length=n:=ry hr (by rw[List.length_set,List.length_replicate])
theorem xL {c:Bool}:(bif c then false else false)=false:=by cases c <;> rfl
theorem rz (R:Res)(p:Prg)(n a:Nat)(hn:0<n/\n<=1000)(ha:a<n)(hpa:p.atoms=n)(hpl:p.rules.l.length<1000000)(hr:∀r,r∈p.rules.l->eM n r)(g:R.σ):Does Tryd.prog R 74 [au p,.int .i64 a] [] g (.ret (.ow true 0 n 1)) [.cells false (n*1) (aw (hgR p n a))] g:=by
 have hroom:aH=140737488355328:=rfl
 have hrl:∀r,r∈p.rules.l->dF n r:=fun r h=>(hr r h).1
 have hRl:(hgR p n a).length=n:=js hrl
 refine aA (nt:=62) (rs:=[.tmp 4]) (k0:=0) (by kernel_rfl) (by kernel_rfl) (by kernel_rfl) rfl ?_
 refine vcQ [] (lkL [(0,[1,2]),(1,[1,2,5]),(2,[2,5]),(3,[2,5,6])]) (fun _=>[]) (fun Q=>1<=2/\0<=p.atoms/\p.atoms<=p.atoms/\p.atoms<=140737488355328/\p.atoms.toNat*1<=aH/\(0<=(a:Int)/\(a:Int)<(↑(p.atoms.toNat):Int))/\a+1<=p.atoms.toNat*1/\Wp Tryd.prog R 62 0 Rd.top (ae Tryd.prog 74) [1,1,1,0,1,0] (aq Tryd.prog R 62 0 Rd.top (ae Tryd.prog 74) Q [Kont.blk 0,Kont.seq [1,1,1,1]]) (St.mk [(2,ref 0 0),(5,sl 1 0 (p.atoms.toNat) (p.atoms.toNat) true 1),(6,AV.bool true)] [cells false 2 (nth [int i64 p.atoms,ad p.rules]),cells false (p.atoms.toNat*1) (ak (fun (j:Nat)=>AV.bool false) a 1 fun (x:Nat)=>AV.bool true)] g)) (fun _=>by kernel_rfl) ⟨by omega,by omega,by omega,by omega,by omega,by omega,by omega,?_⟩
 rw[show p.atoms.toNat=n by omega]
 have hs0:((List.replicate n false).set a true).length=n:=by rw[List.length_set,List.length_replicate]
 refine ca (bc (s':=⟨[(2,.ref 0 0),(5,.ow true 1 n 1),(6,.bool true)],[.cells false 2 (nth [.int .i64 p.atoms,ad p.rules]),.cells false (n*1) (aw ((List.replicate n false).set a true))],g⟩) ?_ ?_ rfl) ?_
 ·exact⟨Le.refl _,Le.sl_ow (by omega),Le.refl _,trivial⟩
 ·exact⟨LeO.refl _,⟨rfl,Nat.le_refl _,fun j _=>Le.of_eq ((congrFun (congrArg (fun z=>ak z a 1 fun _=>AV.bool true) (funext fun _=>rk.symm)) j).trans (nI (b:=kT n []) (by rw[xD];exact ha)))⟩,trivial⟩
 refine(bj (by kernel_rfl) (fun (x:List Bool × Bool)=>⟨[(2,ref 0 0),(5,ow true 1 n 1),(6,.bool x.2)],[.cells false 2 (nth [.int .i64 p.atoms,ad p.rules]),.cells false (n*1) (aw x.1)],g⟩) (fun (x:List Bool × Bool)=>(HgOk p n a x)) (fun (x:List Bool × Bool)=>(if x.2 then ce x.1+1 else 0)) ((List.replicate n false).set a true,true) (bf ⟨Le.refl _,Le.refl _,Le.refl _,trivial⟩ rfl rfl) ?_ (fun x hi=>?_))
 ·exact⟨hs0,fun _=>⟨n+1,Nat.lt_succ_of_le (by have:=List.count_le_length (a:=false) (l:=(List.replicate n false).set a true);rw[hs0] at this;exact this),rfl⟩,fun h=>by cases h⟩
 ·obtain⟨s,ch⟩:=x
  have hok:=hi
  obtain⟨h1,h2,h3⟩:=hi
  simp only at h1 h2 h3
  cases ch with
  |false=>
   rw[h3 rfl]
   refine vcQ [[1,1,1,0,1,0,0,0,1,0]] (lkL [(4,[2,5,16])]) (fun _=>[]) (fun Q=>(fun (u1:St R.σ)=>(false=true->Wp Tryd.prog R 62 0 Rd.top (ae Tryd.prog 74) [1,1,1,0,1,0,0,0,1,0] (aq Tryd.prog R 62 0 Rd.top (ae Tryd.prog 74) Q [Kont.seq [1,1,1,0,1,0,0,1]]) u1)/\(false=false->Q (AEx.exit 0) u1)) (St.mk [(2,ref 0 0),(5,ow true 1 n 1),(16,AV.bool false)] [cells false 2 (nth [int i64 p.atoms,ad p.rules]),cells false (n*1) fun (a_1:Nat)=>aw (hgR p n a) a_1] g)) (fun _=>by kernel_rfl) ⟨fun h=>(nomatch h),fun _=>?_⟩
   refine⟨_,To.refl _,vcQ [] (lkL [(16,[4])]) (fun _=>[]) (fun Q=>Q AEx.ret (St.mk [(4,ow true 1 n 1)] [cells false 2 (nth [int i64 p.atoms,ad p.rules]),cells false (n*1) fun (a_1:Nat)=>aw (hgR p n a) a_1] g)) (fun _=>by kernel_rfl) (?_)⟩
   show bv Tryd.prog R 0 _ _ _ _ .ret _
   exact dB (.ow true 1 n 1) _ rfl trivial (bi (s':=⟨[(0,.ow true 0 n 1)],[.cells false (n*1) (aw (hgR p n a))],g⟩) [1] 2 rfl rfl rfl rfl rfl ⟨Le.refl _,trivial⟩ ⟨LeO.refl _,trivial⟩)
  |true=>
   have hnx:=xK hrl hok
   refine vcQ [[1,1,1,0,1,0,0,0,1,1]] (lkL [(4,[2,5,16]),(5,[2,5,6]),(6,[2,5,6,7])]) (fun _=>[]) (fun Q=>(fun (u1:List AObj)=>(true=true->Wp Tryd.prog R 62 0 Rd.top (ae Tryd.prog 74) [1,1,1,0,1,0,0,1,0,1,1,0] (aq Tryd.prog R 62 0 Rd.top (ae Tryd.prog 74) Q [Kont.blk 2,Kont.blk 1]) (St.mk [(2,ref 0 0),(5,ow true 1 n 1),(6,AV.bool false),(7,int i64 0)] u1 g))/\(true=false->Wp Tryd.prog R 62 0 Rd.top (ae Tryd.prog 74) [1,1,1,0,1,0,0,0,1,1] (aq Tryd.prog R 62 0 Rd.top (ae Tryd.prog 74) Q [Kont.seq [1,1,1,0,1,0,0,1]]) (St.mk [(2,ref 0 0),(5,ow true 1 n 1),(16,AV.bool true)] u1 g))) ([cells false 2 (nth [int i64 p.atoms,ad p.rules]),cells false (n*1) fun (a:Nat)=>aw s a])) (fun _=>by kernel_rfl) ⟨fun _=>?_,fun h=>(nomatch h)⟩
   refine(bj (by kernel_rfl) (fun (i:Nat)=>⟨[(2,ref 0 0),(5,ow true 1 n 1),(6,.bool ((p.rules.l.take i).foldl hgU (s,false)).2),(7,.int .i64 i)],[.cells false 2 (nth [.int .i64 p.atoms,ad p.rules]),.cells false (n*1) (aw ((p.rules.l.take i).foldl hgU (s,false)).1)],g⟩) (fun (i:Nat)=>(i<=p.rules.l.length)) (fun (i:Nat)=>(p.rules.l.length-i)) 0 (bf ⟨Le.refl _,Le.refl _,Le.refl _,(Le.of_eq (by kernel_rfl)),trivial⟩ rfl rfl) ?_ (fun i hi=>?_))
   ·exact Nat.zero_le _
   ·rcases Nat.lt_or_ge i p.rules.l.length with hlt|hge
    ·have hm:=hr _ (gr hlt)
     have hm1:=hm.1
     have hm2:=hm.2
     have hbl:=hm1.1
     have hst:=ik hgU (s,false) p.rules.l default hlt
     have hyl:=(gE (l:=p.rules.l.take i) (x:=(s,false)) (fun r h=>by rw[show(s,false).1.length=n from h1];exact hrl r (List.mem_of_mem_take h))).len
     obtain⟨y,hy⟩:∃y,(p.rules.l.take i).foldl hgU (s,false)=y:=⟨_,rfl⟩
     rw[hy] at hst hyl ⊢
     have hyl:y.1.length=n:=hyl.trans h1
     obtain⟨t,b⟩:=y
     have hyl:t.length=n:=hyl
     cases hb:t.getD (p.rules.l.getD i default).head.toNat false with
     |false=>
      have hu:hgU (t,b) (p.rules.l.getD i default)=(t,b):=if_neg (by show ¬(t.getD _ _=true);rw[hb];decide)
      rw[hu] at hst
      refine vcQ [] (lkL [(7,[2,5,6,7,21]),(9,[2,5,6,7,8]),(10,[2,5,6,7,8,9])]) (lkL [(9,[(6,ROrc.val (Orc.obj (nth [int i64 (p.rules.l.getD i default).head,ao (p.rules.l.getD i default).body])))])]) (fun Q=>(fun (u1:Int)=>(fun (u2:List AV)=>(fun (u3:Int)=>(fun (u4:AObj)=>2<=2/\(decide (u3<u1)=true->2<=2/\(0<=u3/\u3<u1)/\2<=2/\2<=2/\(∀(c:Nat),c<2->nth u2 c=ak (nth [int i64 0,fz Fz.nil 0 0 fun _ _=>any]) 0 2 (List.brecOn (motive:=fun (x:List AV)=>Nat->AV) u2 nth._f) c)/\Wp Tryd.prog R 62 0 Rd.top (ae Tryd.prog 74) [1,1,1,0,1,0,0,1,0,1,1,0,0,1,0,0,1,1,0] (aq Tryd.prog R 62 0 Rd.top (ae Tryd.prog 74) Q [Kont.blk 4,Kont.blk 3,Kont.seq [1,1,1,0,1,0,0,1,0,1,1,0,0,1,1]]) (St.mk [(2,ref 0 0),(5,ow true 1 n 1),(6,AV.bool b),(7,int i64 u3),(8,ref 2 0),(9,int i64 0)] [u4,cells false (n*1) fun (a:Nat)=>aw t a,cells false 2 (nth u2)] g))/\(decide (u3<u1)=false->Q (AEx.exit 2) (St.mk [(2,ref 0 0),(5,ow true 1 n 1),(6,AV.bool b),(7,int i64 u3),(21,AV.bool (decide (u3<u1)))] [u4,cells false (n*1) fun (a:Nat)=>aw t a] g))) (cells false 2 (nth [int i64 p.atoms,ad p.rules]))) ((i:Int))) ([int i64 (p.rules.l.getD i default).head,ao (p.rules.l.getD i default).body])) ((p.rules.l.length:Int))) (fun _=>by kernel_rfl) ⟨by omega,fun c1=>have c1:(i:Int)<(p.rules.l.length:Int):=(of_decide_eq_true c1);⟨by omega,by omega,by omega,by omega,(fun c hc=>match c,hc with|0,_=>(by kernel_rfl)|1,_=>(by kernel_rfl) ),?_⟩,fun c1=>have c1:¬(i:Int)<(p.rules.l.length:Int):=(of_decide_eq_false c1);?_⟩
      ·refine(bj (by kernel_rfl) (fun (k:Nat)=>⟨[(2,ref 0 0),(5,ow true 1 n 1),(6,.bool b),(7,int i64 (i:Int)),(8,ref 2 0),(9,.int .i64 k)],[cells false 2 (nth [int i64 p.atoms,ad p.rules]),cells false (n*1) fun (a:Nat)=>aw t a,cells false 2 (nth [int i64 (p.rules.l.getD i default).head,ao (p.rules.l.getD i default).body])],g⟩) (fun (k:Nat)=>(k=0)) (fun (k:Nat)=>0) 0 (bf ⟨Le.refl _,Le.refl _,Le.refl _,Le.refl _,Le.refl _,(Le.of_eq (by kernel_rfl)),trivial⟩ rfl rfl) ?_ (fun k hi=>?_))
       ·rfl
       ·subst hi
        have hknow:(bif decide (((0:Nat):Int)<((p.rules.l.getD i default).body.l.length:Int)) then t.getD (p.rules.l.getD i default).head.toNat false else false)=false:=by rw[hb];exact xL
        refine vcQ [[1,1,1,0,1,0,0,1,0,1,1,0,0,1,0,0,1,1,0,0,0,1,0]] (lkL [(11,[2,5,6,7,8,9,40])]) (fun _=>[]) (fun Q=>(fun (u1:Int)=>(fun (u2:St R.σ)=>(fun (u3:Int)=>(fun (u4:Bool)=>(fun (u5:Bool)=>2<=2/\(u4=true->1<=2)/\(u4=true->0<=u3/\u3<(n:Int))/\(u4=true->u3.toNat+1<=n*1)/\(u5=true->Wp Tryd.prog R 62 0 Rd.top (ae Tryd.prog 74) [1,1,1,0,1,0,0,1,0,1,1,0,0,1,0,0,1,1,0,0,0,1,0] (aq Tryd.prog R 62 0 Rd.top (ae Tryd.prog 74) Q [Kont.seq [1,1,1,0,1,0,0,1,0,1,1,0,0,1,0,0,1,1,0,0,1]]) u2)/\(u5=false->Q (AEx.exit 4) u2)) (bif u4 then t.getD (u3.toNat) false else false)) (decide ((↑0:Int)<u1))) ((p.rules.l.getD i default).head)) (St.mk [(2,ref 0 0),(5,ow true 1 n 1),(6,AV.bool b),(7,int i64 (i:Int)),(8,ref 2 0),(9,int i64 (↑0:Int)),(40,AV.bool (bif decide ((↑0:Int)<u1) then t.getD ((p.rules.l.getD i default).head.toNat) false else false))] [cells false 2 (nth [int i64 p.atoms,ad p.rules]),cells false (n*1) fun (a:Nat)=>aw t a,cells false 2 (nth [int i64 (p.rules.l.getD i default).head,ao (p.rules.l.getD i default).body])] g)) ((↑((p.rules.l.getD i default).body.l.length):Int))) (fun _=>by kernel_rfl) ⟨by omega,by omega,by omega,by omega,fun hcc=>(nomatch (hknow.symm.trans hcc)),fun _=>?_⟩
        refine⟨_,To.refl _,vcQ [] (lkL [(8,[2,5,6,7])]) (fun _=>[]) (fun Q=>(-9223372036854775808<=(i:Int)+1/\(i:Int)+1<=9223372036854775807)/\Q AEx.normal (St.mk [(2,ref 0 0),(5,ow true 1 n 1),(6,AV.bool b),(7,int i64 ((i:Int)+1))] [cells false 2 (nth [int i64 p.atoms,ad p.rules]),cells false (n*1) fun (a:Nat)=>aw t a,cells false 2 (nth [int i64 (p.rules.l.getD i default).head,ao (p.rules.l.getD i default).body])] g)) (fun _=>by kernel_rfl) ⟨by omega,?_⟩⟩
        refine(aU (i+1) (bi [0,1] 3 rfl rfl rfl rfl rfl ⟨Le.refl _,Le.refl _,Le.of_eq ?_,Le.refl _,trivial⟩ ⟨⟨rfl,Nat.le_refl _,fun j hj=>match j,hj with|0,_=>(Le.refl _)|1,_=>(Le.refl _) ⟩,?_,trivial⟩) ?_ ?_)
        ·show AV.bool _=AV.bool _
         rw[hst]
        ·exact⟨rfl,Nat.le_refl _,fun j _=>by
          rw[hst]
          exact Le.of_eq rfl⟩
        ·omega
        ·omega
      ·exfalso;omega
     |true=>
      have hu:hgU (t,b) (p.rules.l.getD i default)=(p.rules.l.getD i default).body.l.foldl hgL (t,b):=if_pos hb
      rw[hu] at hst
      refine vcQ [] (lkL [(7,[2,5,6,7,21]),(9,[2,5,6,7,8]),(10,[2,5,6,7,8,9])]) (lkL [(9,[(6,ROrc.val (Orc.obj (nth [int i64 (p.rules.l.getD i default).head,ao (p.rules.l.getD i default).body])))])]) (fun Q=>(fun (u1:Int)=>(fun (u2:List AV)=>(fun (u3:Int)=>(fun (u4:AObj)=>2<=2/\(decide (u3<u1)=true->2<=2/\(0<=u3/\u3<u1)/\2<=2/\2<=2/\(∀(c:Nat),c<2->nth u2 c=ak (nth [int i64 0,fz Fz.nil 0 0 fun _ _=>any]) 0 2 (List.brecOn (motive:=fun (x:List AV)=>Nat->AV) u2 nth._f) c)/\Wp Tryd.prog R 62 0 Rd.top (ae Tryd.prog 74) [1,1,1,0,1,0,0,1,0,1,1,0,0,1,0,0,1,1,0] (aq Tryd.prog R 62 0 Rd.top (ae Tryd.prog 74) Q [Kont.blk 4,Kont.blk 3,Kont.seq [1,1,1,0,1,0,0,1,0,1,1,0,0,1,1]]) (St.mk [(2,ref 0 0),(5,ow true 1 n 1),(6,AV.bool b),(7,int i64 u3),(8,ref 2 0),(9,int i64 0)] [u4,cells false (n*1) fun (a:Nat)=>aw t a,cells false 2 (nth u2)] g))/\(decide (u3<u1)=false->Q (AEx.exit 2) (St.mk [(2,ref 0 0),(5,ow true 1 n 1),(6,AV.bool b),(7,int i64 u3),(21,AV.bool (decide (u3<u1)))] [u4,cells false (n*1) fun (a:Nat)=>aw t a] g))) (cells false 2 (nth [int i64 p.atoms,ad p.rules]))) ((i:Int))) ([int i64 (p.rules.l.getD i default).head,ao (p.rules.l.getD i default).body])) ((p.rules.l.length:Int))) (fun _=>by kernel_rfl) ⟨by omega,fun c1=>have c1:(i:Int)<(p.rules.l.length:Int):=(of_decide_eq_true c1);⟨by omega,by omega,by omega,by omega,(fun c hc=>match c,hc with|0,_=>(by kernel_rfl)|1,_=>(by kernel_rfl) ),?_⟩,fun c1=>have c1:¬(i:Int)<(p.rules.l.length:Int):=(of_decide_eq_false c1);?_⟩
      ·refine(bj (by kernel_rfl) (fun (k:Nat)=>⟨[(2,ref 0 0),(5,ow true 1 n 1),(6,.bool (((p.rules.l.getD i default).body.l.take k).foldl hgL (t,b)).2),(7,int i64 (i:Int)),(8,ref 2 0),(9,.int .i64 k)],[.cells false 2 (nth [.int .i64 p.atoms,ad p.rules]),.cells false (n*1) (aw (((p.rules.l.getD i default).body.l.take k).foldl hgL (t,b)).1),.cells false 2 (nth [.int .i64 (p.rules.l.getD i default).head,ao (p.rules.l.getD i default).body])],g⟩) (fun (k:Nat)=>(k<=(p.rules.l.getD i default).body.l.length)) (fun (k:Nat)=>((p.rules.l.getD i default).body.l.length-k)) 0 (bf ⟨Le.refl _,Le.refl _,Le.refl _,Le.refl _,Le.refl _,(Le.of_eq (by kernel_rfl)),trivial⟩ rfl rfl) ?_ (fun k hi=>?_))
       ·exact Nat.zero_le _
       ·rcases Nat.lt_or_ge k (p.rules.l.getD i default).body.l.length with hlk|hgk
        ·have hml:=hm1.2 _ (cg (p.rules.l.getD i default).body.l default hlk)
         have hsk:=ik hgL (t,b) (p.rules.l.getD i default).body.l default hlk
         have hzs:=kW (l:=(p.rules.l.getD i default).body.l.take k) (x:=(t,b)) (fun y hy=>by have:=hm1.2 y (List.mem_of_mem_take hy);show _<t.length;omega)
         obtain⟨z,hz⟩:∃z,((p.rules.l.getD i default).body.l.take k).foldl hgL (t,b)=z:=⟨_,rfl⟩
         rw[hz] at hsk hzs ⊢
         obtain⟨u,d⟩:=z
         have hul:u.length=n:=hzs.len.trans hyl
         have hup:=hzs.up _ hb
         simp only at hup
         rw[xJ] at hsk
         refine vcQ [] (lkL [(11,[2,5,6,7,8,9,40]),(13,[2,5,6,7,8,9,52]),(14,[2,5,7,8,9]),(15,[2,5,6,7,8,9]),(12,[2,5,6,7,8,9])]) (fun _=>[]) (fun Q=>(fun (u1:Rule)=>(fun (u2:Int)=>(fun (u3:Int)=>(fun (u4:Int)=>(fun (u5:List AObj)=>(fun (u6:Bool)=>2<=2/\(decide (u4<u2)=true->1<=2)/\(decide (u4<u2)=true->0<=u1.head/\u1.head<(n:Int))/\(decide (u4<u2)=true->u1.head.toNat+1<=n*1)/\(u6=true->2<=2/\(0<=u4/\u4<u2)/\1<=2/\(0<=u3/\u3<(n:Int))/\u3.toNat+1<=n*1/\((!u.getD (u3.toNat) false)=true->2<=2/\(0<=u4/\u4<u2)/\1<=2/\(0<=u3/\u3<(n:Int))/\u3.toNat+1<=n*1/\(-9223372036854775808<=u4+1/\u4+1<=9223372036854775807)/\Q AEx.normal (St.mk [(2,ref 0 0),(5,ow true 1 n 1),(6,AV.bool true),(7,int i64 (i:Int)),(8,ref 2 0),(9,int i64 (u4+1))] [cells false 2 (nth [int i64 p.atoms,ad p.rules]),cells false (n*1) (ak (aw u) (u3.toNat) 1 fun (x:Nat)=>AV.bool true),cells false 2 (nth [int i64 u1.head,ao u1.body])] g))/\((!u.getD (u3.toNat) false)=false->(-9223372036854775808<=u4+1/\u4+1<=9223372036854775807)/\Q AEx.normal (St.mk [(2,ref 0 0),(5,ow true 1 n 1),(6,AV.bool d),(7,int i64 (i:Int)),(8,ref 2 0),(9,int i64 (u4+1))] u5 g)))/\(u6=false->Q (AEx.exit 4) (St.mk [(2,ref 0 0),(5,ow true 1 n 1),(6,AV.bool d),(7,int i64 (i:Int)),(8,ref 2 0),(9,int i64 u4),(40,AV.bool u6)] u5 g))) (bif decide (u4<u2) then u.getD (u1.head.toNat) false else false)) ([cells false 2 (nth [int i64 p.atoms,ad p.rules]),cells false (n*1) fun (a:Nat)=>aw u a,cells false 2 (nth [int i64 u1.head,ao u1.body])])) ((k:Int))) ((u1.body.l.getD k default).atom)) ((u1.body.l.length:Int))) (p.rules.l.getD i default)) (fun _=>by kernel_rfl) ⟨by omega,by omega,by omega,by omega,fun c1=>have c1:(k:Int)<(↑((p.rules.l.getD i default).body.l.length):Int)/\u.getD ((p.rules.l.getD i default).head.toNat) false=true:=⟨(of_decide_eq_true (cT c1).1),(cT c1).2⟩;⟨by omega,by omega,by omega,by omega,by omega,fun c2=>have c2:u.getD (((p.rules.l.getD i default).body.l.getD k default).atom.toNat) false=false:=((Bool.not_eq_true' _).mp c2);⟨by omega,by omega,by omega,by omega,by omega,by omega,?_⟩,fun c2=>have c2:u.getD (((p.rules.l.getD i default).body.l.getD k default).atom.toNat) false=true:=((Bool.not_eq_false' _).mp c2);⟨by omega,?_⟩⟩,fun c1=>have c1:¬(k:Int)<(↑((p.rules.l.getD i default).body.l.length):Int)∨u.getD ((p.rules.l.getD i default).head.toNat) false=false:=((fE c1).imp (fun h=>(of_decide_eq_false h)) (fun h=>h));?_⟩
         ·have hng:¬(u.getD ((p.rules.l.getD i default).body.l.getD k default).atom.toNat false=true):=by rw[c2];decide
          rw[if_neg hng] at hsk
          refine(aU (k+1) (bc ⟨Le.refl _,Le.refl _,(Le.of_eq ?_),Le.refl _,Le.refl _,(Le.of_eq (by kernel_rfl)),trivial⟩ ⟨LeO.rflc,?_,LeO.rflc,trivial⟩ rfl) ?_ ?_)
          ·show AV.bool _=AV.bool _
           rw[hsk]
          ·exact⟨rfl,Nat.le_refl _,fun j _=>by
            rw[hsk]
            exact Le.of_eq (nI (by omega))⟩
          ·omega
          ·omega
         ·rw[if_pos c2] at hsk
          refine(aU (k+1) (bc ⟨Le.refl _,Le.refl _,(Le.of_eq ?_),Le.refl _,Le.refl _,(Le.of_eq (by kernel_rfl)),trivial⟩ ⟨LeO.rflc,?_,LeO.rflc,trivial⟩ rfl) ?_ ?_)
          ·show AV.bool _=AV.bool _
           rw[hsk]
          ·exact⟨rfl,Nat.le_refl _,fun j _=>by
            rw[hsk]
            exact Le.of_eq rfl⟩
          ·omega
          ·omega
         ·exfalso
          rcases c1 with c|c
          ·omega
          ·rw[hup] at c;cases c
        ·have hke:k=(p.rules.l.getD i default).body.l.length:=by omega
         subst hke
         rw[List.take_length]
         have hbb:decide (((p.rules.l.getD i default).body.l.length:Int)<((p.rules.l.getD i default).body.l.length:Int))=false:=decide_eq_false (by omega)
         rw[<-hst]
         have hknow:(bif decide (((p.rules.l.getD i default).body.l.length:Int)<((p.rules.l.getD i default).body.l.length:Int)) then((p.rules.l.take (i+1)).foldl hgU (s,false)).1.getD (p.rules.l.getD i default).head.toNat false else false)=false:=by rw[hbb];rfl
         refine vcQ [[1,1,1,0,1,0,0,1,0,1,1,0,0,1,0,0,1,1,0,0,0,1,0]] (lkL [(11,[2,5,6,7,8,9,40])]) (fun _=>[]) (fun Q=>(fun (u1:Int)=>(fun (u2:St R.σ)=>(fun (u3:Bool)=>(fun (u4:Int)=>2<=2/\(decide (u1<u1)=true->1<=2)/\(decide (u1<u1)=true->0<=u4/\u4<(n:Int))/\(decide (u1<u1)=true->u4.toNat+1<=n*1)/\(u3=true->Wp Tryd.prog R 62 0 Rd.top (ae Tryd.prog 74) [1,1,1,0,1,0,0,1,0,1,1,0,0,1,0,0,1,1,0,0,0,1,0] (aq Tryd.prog R 62 0 Rd.top (ae Tryd.prog 74) Q [Kont.seq [1,1,1,0,1,0,0,1,0,1,1,0,0,1,0,0,1,1,0,0,1]]) u2)/\(u3=false->Q (AEx.exit 4) u2)) ((p.rules.l.getD i default).head)) (bif decide (u1<u1) then(List.foldl hgU (s,false) (List.take (i+1) p.rules.l)).fst.getD ((p.rules.l.getD i default).head.toNat) false else false)) (St.mk [(2,ref 0 0),(5,ow true 1 n 1),(6,AV.bool (List.foldl hgU (s,false) (List.take (i+1) p.rules.l)).snd),(7,int i64 (i:Int)),(8,ref 2 0),(9,int i64 u1),(40,AV.bool (bif decide (u1<u1) then(List.foldl hgU (s,false) (List.take (i+1) p.rules.l)).fst.getD ((p.rules.l.getD i default).head.toNat) false else false))] [cells false 2 (nth [int i64 p.atoms,ad p.rules]),cells false (n*1) fun (a:Nat)=>aw (List.foldl hgU (s,false) (List.take (i+1) p.rules.l)).fst a,cells false 2 (nth [int i64 (p.rules.l.getD i default).head,ao (p.rules.l.getD i default).body])] g)) ((↑((p.rules.l.getD i default).body.l.length):Int))) (fun _=>by kernel_rfl) ⟨by omega,by omega,by omega,by omega,fun hcc=>(nomatch (hknow.symm.trans hcc)),fun _=>?_⟩
         refine⟨_,To.refl _,vcQ [] (lkL [(8,[2,5,6,7])]) (fun _=>[]) (fun Q=>(-9223372036854775808<=(i:Int)+1/\(i:Int)+1<=9223372036854775807)/\Q AEx.normal (St.mk [(2,ref 0 0),(5,ow true 1 n 1),(6,AV.bool (List.foldl hgU (s,false) (List.take (i+1) p.rules.l)).snd),(7,int i64 ((i:Int)+1))] [cells false 2 (nth [int i64 p.atoms,ad p.rules]),cells false (n*1) fun (a:Nat)=>aw (List.foldl hgU (s,false) (List.take (i+1) p.rules.l)).fst a,cells false 2 (nth [int i64 (p.rules.l.getD i default).head,ao (p.rules.l.getD i default).body])] g)) (fun _=>by kernel_rfl) ⟨by omega,?_⟩⟩
         refine(aU (i+1) (bi [0,1] 3 rfl rfl rfl rfl rfl ⟨Le.refl _,Le.refl _,Le.refl _,Le.refl _,trivial⟩ ⟨⟨rfl,Nat.le_refl _,fun j hj=>match j,hj with|0,_=>(Le.refl _)|1,_=>(Le.refl _) ⟩,?_,trivial⟩) ?_ ?_)
         ·exact⟨rfl,Nat.le_refl _,fun j _=>Le.of_eq rfl⟩
         ·omega
         ·omega
      ·exfalso;omega
    ·have hie:i=p.rules.l.length:=by omega
     subst hie
     rw[List.take_length]
     have hbb:decide ((p.rules.l.length:Int)<(p.rules.l.length:Int))=false:=decide_eq_false (by omega)
     refine vcQ [[1,1,1,0,1,0,0,1,0,1,1,0,0,0,1,0]] (lkL [(7,[2,5,6,7,21])]) (fun _=>[]) (fun Q=>(fun (u1:Int)=>(fun (u2:St R.σ)=>2<=2/\(decide (u1<u1)=true->Wp Tryd.prog R 62 0 Rd.top (ae Tryd.prog 74) [1,1,1,0,1,0,0,1,0,1,1,0,0,0,1,0] (aq Tryd.prog R 62 0 Rd.top (ae Tryd.prog 74) Q [Kont.seq [1,1,1,0,1,0,0,1,0,1,1,0,0,1]]) u2)/\(decide (u1<u1)=false->Q (AEx.exit 2) u2)) (St.mk [(2,ref 0 0),(5,ow true 1 n 1),(6,AV.bool (List.foldl hgU (s,false) p.rules.l).snd),(7,int i64 u1),(21,AV.bool (decide (u1<u1)))] [cells false 2 (nth [int i64 p.atoms,ad p.rules]),cells false (n*1) fun (a:Nat)=>aw (List.foldl hgU (s,false) p.rules.l).fst a] g)) ((p.rules.l.length:Int))) (fun _=>by kernel_rfl) ⟨by omega,fun hcc=>(nomatch (hbb.symm.trans hcc)),fun _=>?_⟩
     refine⟨_,To.refl _,(aU (hgD p s) (bc ⟨Le.refl _,Le.refl _,(Le.of_eq (by kernel_rfl)),trivial⟩ ⟨LeO.rflc,LeO.rflc,trivial⟩ rfl) ?_ ?_)⟩
     ·exact hnx.1
     ·exact hnx.2
def gF (p:Prg)(a:Nat)(s:List Bool):Prop:=∀k,s.getD k false=true->Reach p a k
theorem nN {s:List Bool}{i k:Nat}(h:(s.set i true).getD k false=true):k=i∨s.getD k false=true:=by
 rw[List.getD_eq_getElem?_getD,List.getElem?_set] at h
 split at h
 ·rename_i e;exact .inl e.symm
 ·rw[List.getD_eq_getElem?_getD];exact .inr h
theorem rA {p:Prg}{a:Nat}{r:Rule}(hr:r∈p.rules.l)(hh:0<=r.head)(ha:Reach p a r.head.toNat):∀{l:List Lit} {x:List Bool × Bool},(∀y,y∈l->y∈r.body.l)->gF p a x.1->gF p a (l.foldl hgL x).1
 |[],_,_,h=>h
 |y::l,x,hl,h=>by
  refine rA hr hh ha (l:=l) (x:=hgL x y) (fun z hz=>hl z (List.mem_cons_of_mem _ hz)) ?_
  unfold hgL
  split
  ·exact h
  ·intro k hk
   rcases nN hk with e|hk
   ·rw[e]
    exact ha.trans (.step ⟨r,hr,by omega,y,hl y List.mem_cons_self,rfl⟩ (.refl _))
   ·exact h k hk
theorem rB {p:Prg}{a:Nat}:∀{l:List Rule} {x:List Bool × Bool},(∀r,r∈l->r∈p.rules.l/\0<=r.head)->gF p a x.1->gF p a (l.foldl hgU x).1
 |[],_,_,h=>h
 |r::l,x,hl,h=>by
  refine rB (l:=l) (x:=hgU x r) (fun q hq=>hl q (List.mem_cons_of_mem _ hq)) ?_
  obtain⟨h1,h2⟩:=hl r List.mem_cons_self
  unfold hgU
  split
  ·rename_i hb
   exact rA h1 h2 (h _ hb) (fun _ h=>h) h
  ·exact h
theorem rC {p:Prg}{a:Nat}(hr:∀r,r∈p.rules.l->0<=r.head):∀{k:Nat} {s:List Bool},gF p a s->gF p a (hgI p k s)
 |0,_,h=>h
 |k+1,s,h=>by
  show gF p a (if (hgD p s).2 then hgI p k (hgD p s).1 else s)
  split
  ·exact rC hr (rB (fun r h=>⟨h,hr r h⟩) h)
  ·exact h
def nO (l:List Rule)(s:List Bool):Prop:=∀r,r∈l->s.getD r.head.toNat false=true->∀y,y∈r.body.l->s.getD y.atom.toNat false=true
theorem rD:∀{l:List Lit} {x:List Bool × Bool},(∀y,y∈l->y.atom.toNat<x.1.length)->(l.foldl hgL x).2=false->∀y,y∈l->x.1.getD y.atom.toNat false=true
 |[],_,_,_=>fun y hy=>by cases hy
 |y::l,x,h,hf=>by
  have h1:=rt (x:=x) (h y List.mem_cons_self)
  have hl:∀z,z∈l->z.atom.toNat<(hgL x y).1.length:=fun z hz=>by rw[h1.len];exact h z (List.mem_cons_of_mem _ hz)
  have h2:=kW (l:=l) (x:=hgL x y) hl
  have hy:(hgL x y).2=false:=by
   cases hb:(hgL x y).2 with
   |false=>rfl
   |true=>
    have:=h2.ch hb
    have hf:(l.foldl hgL (hgL x y)).2=false:=hf
    rw[hf] at this
    cases this
  have hs:=h1.same hy
  intro z hz
  rcases List.mem_cons.1 hz with e|hz
  ·subst e
   unfold hgL at hy
   split at hy
   ·assumption
   ·cases hy
  ·have:=rD hl hf z hz
   rw[hs] at this
   exact this
theorem rE:∀{l:List Rule} {x:List Bool × Bool},(∀r,r∈l->dF x.1.length r)->(l.foldl hgU x).2=false->nO l x.1
 |[],_,_,_=>fun r hr=>by cases hr
 |r::l,x,h,hf=>by
  have h1:=rx (x:=x) (h r List.mem_cons_self)
  have hl:∀q,q∈l->dF (hgU x r).1.length q:=fun q hq=>by rw[h1.len];exact h q (List.mem_cons_of_mem _ hq)
  have h2:=gE (l:=l) (x:=hgU x r) hl
  have hy:(hgU x r).2=false:=by
   cases hb:(hgU x r).2 with
   |false=>rfl
   |true=>
    have:=h2.ch hb
    have hf:(l.foldl hgU (hgU x r)).2=false:=hf
    rw[hf] at this
    cases this
  have hs:=h1.same hy
  intro q hq hd
  rcases List.mem_cons.1 hq with e|hq
  ·subst e
   unfold hgU at hy
   rw[if_pos hd] at hy
   exact rD (ru (h q List.mem_cons_self).2) hy
  ·have:=rE hl hf q hq
   rw[hs] at this
   exact this hd
theorem rF {p:Prg}{n:Nat}(hr:∀r,r∈p.rules.l->dF n r):∀{k:Nat} {s:List Bool},s.length=n->ce s<k->nO p.rules.l (hgI p k s)
 |0,_,_,h=>absurd h (Nat.not_lt_zero _)
 |k+1,s,hs,h=>by
  show nO p.rules.l (if (hgD p s).2 then hgI p k (hgD p s).1 else s)
  have hx:∀r,r∈p.rules.l->dF (s,false).1.length r:=by rw[show(s,false).1.length=n from hs];exact hr
  have h1:=gE (l:=p.rules.l) (x:=(s,false)) hx
  split
  ·rename_i hc
   have:=h1.less hc rfl
   have hs':ce (s,false).1=ce s:=rfl
   exact rF hr (h1.len.trans hs) (by show ce (p.rules.l.foldl hgU (s,false)).1<k;omega)
  ·rename_i hc
   have hc:(p.rules.l.foldl hgU (s,false)).2=false:=by
    cases hb:(p.rules.l.foldl hgU (s,false)).2 with
    |false=>rfl
    |true=>exact absurd hb hc
   exact rE hx hc
theorem rG {p:Prg}{n:Nat}(hr:∀r,r∈p.rules.l->dF n r):∀{k:Nat} {s:List Bool},s.length=n->∀j,s.getD j false=true->(hgI p k s).getD j false=true
 |0,_,_=>fun _ h=>h
 |k+1,s,hs=>by
  show ∀j,s.getD j false=true->(if (hgD p s).2 then hgI p k (hgD p s).1 else s).getD j false=true
  have h1:=gE (l:=p.rules.l) (x:=(s,false)) (by rw[show(s,false).1.length=n from hs];exact hr)
  split
  ·exact fun j hj=>rG hr (h1.len.trans hs) j (h1.up j hj)
  ·exact fun _ h=>h
theorem gG {p:Prg}{n a b:Nat}(hr:∀r,r∈p.rules.l->eM n r)(ha:a<n):(hgR p n a).getD b false=true↔Reach p a b:=by
 have hrl:∀r,r∈p.rules.l->dF n r:=fun r h=>(hr r h).1
 have hs0:((List.replicate n false).set a true).length=n:=by rw[List.length_set,List.length_replicate]
 have h0:((List.replicate n false).set a true).getD a false=true:=by
  rw[List.getD_eq_getElem?_getD,List.getElem?_set,if_pos rfl,if_pos (by rw[List.length_replicate];exact ha)]
  rfl
 constructor
 ·intro h
  refine rC (fun r h=>(hr r h).2.1) (fun k hk=>?_) b h
  rcases nN hk with e|hk
  ·rw[e];exact .refl _
  ·rw[List.getD_eq_getElem?_getD,List.getElem?_replicate] at hk
   split at hk <;> cases hk
 ·have hc:=rF (k:=n+1) hrl hs0 (Nat.lt_succ_of_le (by
   have:=List.count_le_length (a:=false) (l:=(List.replicate n false).set a true)
   rw[hs0] at this
   exact this))
  have ha':=rG (k:=n+1) hrl hs0 a h0
  have key:∀x y,Reach p x y->(hgR p n a).getD x false=true->(hgR p n a).getD y false=true:=by
   intro x y h
   induction h with
   |refl=>exact fun h=>h
   |step h _ ih=>
    obtain⟨r,h1,h2,l,h3,h4⟩:=h
    refine fun hx=>ih ?_
    rw[<-h4]
    exact hc r h1 (by rw[h2];exact hx) l h3
  exact fun h=>key a b h ha'
theorem xM {p:Prg}{n a:Nat}(hr:∀r,r∈p.rules.l->aQ r)(hrn:∀r,r∈p.rules.l->eM n r)(ha:a<n)(hn:n<=24)(b:Nat):(hgR p n a).getD b false=(hgP p a).testBit b:=by
 rw[Bool.eq_iff_iff,gG hrn ha,dD hr (by omega)]
theorem rH {n m:Nat}{s:List Bool}(hn:n<=24)(hs:s.length=n)(h:∀j,s.getD j false=m.testBit j):aE s n=aG m:=by
 unfold aE aG
 congr 1
 show _=(List.range 24).filter (fun j=>m.testBit j)
 rw[show 24=n+(24-n) by omega,nM (fun j hj=>?_)]
 ·congr 1
  funext j
  exact h j
 ·rw[<-h j,List.getD_eq_getElem?_getD,List.getElem?_eq_none (by omega)]
  rfl
theorem xN (R:Res)(p:Prg)(n a:Nat)(hn:0<n/\n<=1000)(ha:a<n)(hpa:p.atoms=n)(hpl:p.rules.l.length<1000000)(hr:∀r,r∈p.rules.l->eM n r)(g:R.σ):Does Tryd.prog R 34 [au p,.int .i64 a] [] g (.ret (.ow true 0 (aE (hgR p n a) n).length 1)) [.cells false ((aE (hgR p n a) n).length*1) (ag (aE (hgR p n a) n))] g:=by
 have hroom:aH=140737488355328:=rfl
 have hl:(hgR p n a).length=n:=js (fun r h=>(hr r h).1)
 have hH:=fun (R:Res) (g:R.σ)=>rz R p n a hn ha hpa hpl hr g
 have hN:=fun (R:Res) (g:R.σ)=>xz R (hgR p n a) (by omega) g
 rw[hl] at hN
 refine aA (nt:=9) (rs:=[.tmp 4]) (k0:=0) (by kernel_rfl) (by kernel_rfl) (by kernel_rfl) rfl ?_
 refine vcQ [] (lkL [(0,[1,2]),(1,[4])]) (lkL [(1,[(2,ROrc.call (ow true 1 n 1) [cells false 2 (nth [int i64 p.atoms,ad p.rules]),cells false (n*1) (aw (hgR p n a))] g),(3,ROrc.call (ow true 2 ((aE (hgR p n a) n).length) 1) [cells false 2 (nth [int i64 p.atoms,ad p.rules]),cells false (n*1) fun (a_1:Nat)=>aw (hgR p n a) a_1,cells false ((aE (hgR p n a) n).length*1) (ag (aE (hgR p n a) n))] g)])]) (fun Q=>(fun (u1:List AObj)=>(fun (u2:List AObj)=>2<=2/\(true=true/\Does Tryd.prog R 74 [au p,int i64 (a:Int)] [cells false 2 (nth [int i64 p.atoms,ad p.rules])] g (ret (ow true 1 n 1)) u2 g)/\(true=true/\Does Tryd.prog R 85 [ow true 1 n 1] u2 g (ret (ow true 2 ((aE (hgR p n a) n).length) 1)) u1 g)/\Q AEx.ret (St.mk [(4,ow true 2 ((aE (hgR p n a) n).length) 1)] u1 g)) ([cells false 2 (nth [int i64 p.atoms,ad p.rules]),cells false (n*1) fun (a_1:Nat)=>aw (hgR p n a) a_1])) ([cells false 2 (nth [int i64 p.atoms,ad p.rules]),cells false (n*1) fun (a_1:Nat)=>aw (hgR p n a) a_1,cells false ((aE (hgR p n a) n).length*1) fun (a_1:Nat)=>ag (aE (hgR p n a) n) a_1])) (fun _=>by kernel_rfl) ⟨by omega,⟨rfl,(bX [] 1 (fun R g=>hH R g) rfl rfl rfl (by exact trivial) (by exact trivial) (by exact⟨az (by exact⟨⟨trivial,trivial⟩,trivial⟩),az (by exact trivial),trivial⟩) (by exact(Le.refl _)) (by exact⟨LeO.rflc,⟨rfl,Nat.le_refl _,fun j hj=>(by first|exact aC (by first|exact trivial|apply gD)|exact Le.of_eq (jr rfl))⟩,trivial⟩))⟩,⟨rfl,(bX [1] 2 (fun R g=>hN R g) rfl rfl rfl (by exact⟨⟨rfl,Nat.le_refl _,fun j hj=>(by first|exact az (by first|exact trivial|apply gD)|exact Le.of_eq (jr rfl).symm)⟩,trivial⟩) (by exact⟨by omega,trivial⟩) (by exact⟨Le.refl _,trivial⟩) (by exact(Le.refl _)) (by exact⟨LeO.rflc,⟨rfl,Nat.le_refl _,fun j hj=>(by first|exact aC (by first|exact trivial|apply gD)|exact Le.of_eq (jr rfl))⟩,⟨rfl,Nat.le_refl _,fun j hj=>(by first|exact aC (by first|exact trivial|apply cL)|exact Le.of_eq (dV rfl))⟩,trivial⟩))⟩,?_⟩
 show bv Tryd.prog R 0 _ _ _ _ .ret _
 exact dB (.ow true 2 (aE (hgR p n a) n).length 1) _ rfl trivial (bi (s':=⟨[(0,.ow true 0 (aE (hgR p n a) n).length 1)],[.cells false ((aE (hgR p n a) n).length*1) (ag (aE (hgR p n a) n))],g⟩) [2] 3 rfl rfl rfl rfl rfl ⟨Le.refl _,trivial⟩ ⟨LeO.refl _,trivial⟩)
theorem xO (R:Res)(p:Prg)(n a:Nat)(hn:0<n/\n<=24)(ha:a<n)(hpa:p.atoms=n)(hpl:p.rules.l.length<1000000)(hr:∀r,r∈p.rules.l->aQ r)(hrn:∀r,r∈p.rules.l->eM n r)(g:R.σ):Does Tryd.prog R 34 [au p,.int .i64 a] [] g (.ret (am (ah (hgP p a)))) [] g:=by
 refine e7 (xN R p n a (by omega) ha hpa hpl hrn g) ?_
 rw[rH hn.2 (js (fun r h=>(hrn r h).1)) (xM hr hrn ha hn.2)]
 exact e9 0 [(0,am (ah (hgP p a)))] (Nat.le_refl _) (Nat.zero_le _) (fun i hi=>absurd hi (Nat.not_lt_zero i)) ⟨rq rfl rfl (Nat.zero_le _),trivial⟩
def kX (l:List Bool):AV:=.fz .auto 1 l.length (fun i _=>.bool (l.getD i false))
theorem xP {hp:List AObj}{k m o:Nat}{l:List Bool}{n:Nat}(hn:l.length=n)(ho:af hp o=.cells false (n*1) (aw l))(hk:k<=o):aF hp k m (.ow true o n 1) (kX l):=by
 subst hn
 exact(aF.ow ho hk (Nat.le_refl _) (by decide) (fun j _=>aF.below (gD _ _))).le (Le.fz rfl (fun i j hi hj=>by
  show AV.bool _=AV.bool _
  rw[show i*1+j=i by omega]))
theorem xQ (R:Res)(p:Prg)(n a:Nat)(hn:0<n/\n<=1000)(ha:a<n)(hpa:p.atoms=n)(hpl:p.rules.l.length<1000000)(hr:∀r,r∈p.rules.l->eM n r)(g:R.σ):Does Tryd.prog R 74 [au p,.int .i64 a] [] g (.ret (kX (hgR p n a))) [] g:=by
 refine e7 (rz R p n a hn ha hpa hpl hr g) ?_
 exact e9 0 [(0,kX (hgR p n a))] (Nat.le_refl _) (Nat.zero_le _) (fun i hi=>absurd hi (Nat.not_lt_zero i)) ⟨xP (js (fun r h=>(hr r h).1)) rfl (Nat.zero_le _),trivial⟩
abbrev HG:=Nat->List Bool
def hgC (h:HG):Nat->AV:=fun i=>kX (h i)
theorem nP {k:Nat}(h:HG)(j:Nat):Below k (hgC h j):=trivial
theorem rI {f:Nat->Nat}(t:True){h:HG}{j:Nat}:aS f (hgC h j)=hgC h j:=rfl
def bh (h:HG)(n i:Nat):List Bool:=(List.range n).map (fun k=>(h i).getD k false&&(h k).getD i false)
theorem rJ {h:HG}{n i k:Nat}(hk:k<n):(bh h n i).getD k false=((h i).getD k false&&(h k).getD i false):=by
 unfold bh
 rw[List.getD_eq_getElem?_getD,List.getElem?_map,List.getElem?_range hk]
 rfl
def cO (h:HG)(s:List Bool)(i:Nat):Nat->Bool
 |0=> !s.getD i false
 |k+1=>cO h s i k&&((h i).getD k false&&(h k).getD i false || !((h i).getD k false && !s.getD k false))
def eo (h:HG)(s:List Bool)(n:Nat):Nat:=(List.range n).findIdx (fun i=>cO h s i n)
def eN (h:HG)(s:List Bool)(n:Nat):List Int:=aE (bh h n (eo h s n)) n
theorem rK {h:HG}{s:List Bool}{n i:Nat}(hi:i<n)(h1:cO h s i n=true)(h2:∀j,j<i->cO h s j n=false):eo h s n=i:=by
 unfold eo
 refine(List.findIdx_eq (by rw[List.length_range];exact hi)).2 ⟨by rw[List.getElem_range];exact h1,fun j hj=>?_⟩
 rw[List.getElem_range]
 exact h2 j hj
theorem xR {h:HG}{s:List Bool}{n:Nat}(hex:eo h s n<n):cO h s (eo h s n) n=true:=by
 have:=List.findIdx_getElem (p:=fun i=>cO h s i n) (xs:=List.range n) (w:=by rw[List.length_range];exact hex)
 rw[List.getElem_range] at this
 exact this
theorem xS (R:Res)(h:HG)(s:List Bool)(n:Nat)(hn:0<n/\n<=1000)(hs:s.length=n)(hh:∀i,i<n->(h i).length=n)(hex:eo h s n<n)(g:R.σ):Does Tryd.prog R 84 [.ow true 0 n 1,.ow true 1 n 1] [.cells false (n*1) (hgC h),.cells false (n*1) (aw s)] g (.ret (.ow true 2 (eN h s n).length 1)) [.cells false (n*1) (hgC h),.cells false (n*1) (aw s),.cells false ((eN h s n).length*1) (ag (eN h s n))] g:=by
 have hroom:aH=140737488355328:=rfl
 refine aA (nt:=62) (rs:=[.tmp 4]) (k0:=2) (by kernel_rfl) (by kernel_rfl) (by kernel_rfl) rfl ?_
 refine vcQ [] (lkL [(0,[0,1]),(1,[0,1,5])]) (fun _=>[]) (fun Q=>Wp Tryd.prog R 62 2 Rd.top (ae Tryd.prog 84) [1,0,1,0] (aq Tryd.prog R 62 2 Rd.top (ae Tryd.prog 84) Q [Kont.blk 0,Kont.seq [1,1]]) (St.mk [(0,ow true 0 n 1),(1,ow true 1 n 1),(5,int i64 0)] [cells false (n*1) fun (a:Nat)=>fz Fz.auto 1 ((h a).length) fun (i x:Nat)=>aw (h a) i,cells false (n*1) fun (a:Nat)=>aw s a] g)) (fun _=>by kernel_rfl) (?_)
 refine(bj (by kernel_rfl) (fun (i:Nat)=>⟨[(0,ow true 0 n 1),(1,ow true 1 n 1),(5,.int .i64 i)],[cells false (n*1) fun (a:Nat)=>fz Fz.auto 1 ((h a).length) fun (i x:Nat)=>aw (h a) i,cells false (n*1) fun (a:Nat)=>aw s a],g⟩) (fun (i:Nat)=>(i<=eo h s n/\∀j,j<i->cO h s j n=false)) (fun (i:Nat)=>(n-i)) 0 (bf ⟨Le.refl _,Le.refl _,(Le.of_eq (by kernel_rfl)),trivial⟩ rfl rfl) ?_ (fun i hi=>?_))
 ·exact⟨Nat.zero_le _,fun j hj=>absurd hj (Nat.not_lt_zero _)⟩
 ·obtain⟨hik,hno⟩:=hi
  have hin:i<n:=by omega
  have hhi:=hh i hin
  refine vcQ [] (lkL [(2,[0,1,5,12]),(4,[0,1,5,6]),(5,[0,1,5,6,7]),(6,[0,1,5,6,7,8])]) (fun _=>[]) (fun Q=>(fun (u1:List AObj)=>(fun (u2:Int)=>(fun (u3:Int)=>(decide (u2<u3)=true->(0<=u2/\u2<u3)/\i+1<=n*1/\Wp Tryd.prog R 62 2 Rd.top (ae Tryd.prog 84) [1,0,1,0,0,1,0,0,1,1,0,1,0] (aq Tryd.prog R 62 2 Rd.top (ae Tryd.prog 84) Q [Kont.blk 2,Kont.seq [1,0,1,0,0,1,0,0,1,1,1],Kont.blk 1,Kont.seq [1,0,1,0,0,1,1]]) (St.mk [(0,ow true 0 n 1),(1,ow true 1 n 1),(5,int i64 u2),(6,AV.bool !s.getD i false),(7,fz Fz.nil 0 0 fun _ _=>any),(8,int i64 0)] u1 g))/\(decide (u2<u3)=false->Q (AEx.exit 0) (St.mk [(0,ow true 0 n 1),(1,ow true 1 n 1),(5,int i64 u2),(12,AV.bool (decide (u2<u3)))] u1 g))) ((n:Int))) ((i:Int))) ([cells false (n*1) fun (a:Nat)=>fz Fz.auto 1 ((h a).length) fun (i x:Nat)=>aw (h a) i,cells false (n*1) fun (a:Nat)=>aw s a])) (fun _=>by kernel_rfl) ⟨fun c1=>have c1:(i:Int)<(n:Int):=(of_decide_eq_true c1);⟨by omega,by omega,?_⟩,fun c1=>have c1:¬(i:Int)<(n:Int):=(of_decide_eq_false c1);?_⟩
  ·refine ca (ej (fun _=>.any) 1) ?_
   refine(bj (by kernel_rfl) (fun (x:Nat × Nat)=>⟨[(0,ow true 0 n 1),(1,ow true 1 n 1),(5,int i64 (i:Int)),(6,.bool (cO h s i x.1)),(7,.ow true 2 x.2 1),(8,.int .i64 x.1)],[.cells false (n*1) (hgC h),.cells false (n*1) (aw s),.cells false (x.2*1) (ag (aE (bh h n i) x.1))],g⟩) (fun (x:Nat × Nat)=>(x.1<=n/\x.2=(aE (bh h n i) x.1).length)) (fun (x:Nat × Nat)=>(n-x.1)) ((0,0):Nat × Nat) (bc ⟨Le.refl _,Le.refl _,Le.refl _,(Le.of_eq (by kernel_rfl)),Le.nil_ow,(Le.of_eq (by kernel_rfl)),trivial⟩ ⟨LeO.rflc,LeO.rflc,⟨rfl,Nat.le_refl _,fun j hj=>absurd hj (Nat.not_lt_zero j)⟩,trivial⟩ rfl) ?_ (fun x hi=>?_))
   ·exact⟨Nat.zero_le _,rfl⟩
   ·obtain⟨k,m⟩:=x
    obtain⟨hk,hm⟩:=hi
    simp only at hk hm
    have hml:=rj (s:=bh h n i) (n:=k)
    have hns:=ri (s:=bh h n i) (n:=k)
    have hfs:cO h s i (k+1)=(cO h s i k&&((h i).getD k false&&(h k).getD i false || !((h i).getD k false && !s.getD k false))):=rfl
    rcases Nat.lt_or_ge k n with hk'|hk'
    ·have hhk:=hh k hk'
     rw[rJ hk'] at hns
     refine vcQ [] (lkL [(7,[0,1,5,6,7,8,23]),(9,[0,1,5,6,7,8,41]),(11,[0,1,5,6,7,8,59]),(12,[0,1,5,6,7,8]),(10,[0,1,5,6,7,8]),(8,[0,1,5,6,7,8])]) (lkL [(10,[(3,ROrc.val (Orc.obj (ag (aE (bh h n i) k++[(k:Int)]))))])]) (fun Q=>(fun (u1:List AObj)=>(fun (u2:Int)=>(fun (u3:Bool)=>(fun (u4:Int)=>(fun (u5:Int)=>(decide (u2<u4)=true->(0<=u5/\u5<u4)/\i+1<=n*1/\(0<=u2/\u2<(↑((h i).length):Int))/\1<=1/\(u3=true->0<=u2/\u2<u4)/\(u3=true->k+1<=n*1)/\(u3=true->0<=u5/\u5<(↑((h k).length):Int))/\(u3=true->1<=1)/\((bif u3 then(h k).getD i false else false)=true->0<1/\(m+1)*8<=aH/\m+1<=aH/\1<=1/\m*1<=m*1/\(∀(c:Nat),c<(m+1)*1->ag (aE (bh h n i) k++[u2]) c=bb 1 m (fun (i_1 j:Nat)=>ag (aE (bh h n i) k) (i_1*1+j)) (fun (i j:Nat)=>ak (fun (j:Nat)=>int i64 0) 0 1 (fun (x:Nat)=>int i64 u2) (0+i*1+j)) c)/\(-9223372036854775808<=u2+1/\u2+1<=9223372036854775807)/\Q AEx.normal (St.mk [(0,ow true 0 n 1),(1,ow true 1 n 1),(5,int i64 u5),(6,AV.bool (cO h s i k)),(7,ow true 4 (m+1) 1),(8,int i64 (u2+1))] [cells false (n*1) fun (a:Nat)=>fz Fz.auto 1 ((h a).length) fun (i x:Nat)=>aw (h a) i,cells false (n*1) fun (a:Nat)=>aw s a,dead,cells false 1 (ak (fun (j:Nat)=>int i64 0) 0 1 fun (x:Nat)=>int i64 u2),cells false ((m+1)*1) fun (a:Nat)=>ag (aE (bh h n i) k++[u2]) a] g))/\((bif u3 then(h k).getD i false else false)=false->(0<=u5/\u5<u4)/\i+1<=n*1/\(0<=u2/\u2<(↑((h i).length):Int))/\1<=1/\(u3=true->0<=u2/\u2<u4)/\(u3=true->k+1<=n*1)/\((bif u3 then !s.getD k false else false)=true->(-9223372036854775808<=u2+1/\u2+1<=9223372036854775807)/\Q AEx.normal (St.mk [(0,ow true 0 n 1),(1,ow true 1 n 1),(5,int i64 u5),(6,AV.bool false),(7,ow true 2 m 1),(8,int i64 (u2+1))] u1 g))/\((bif u3 then !s.getD k false else false)=false->(-9223372036854775808<=u2+1/\u2+1<=9223372036854775807)/\Q AEx.normal (St.mk [(0,ow true 0 n 1),(1,ow true 1 n 1),(5,int i64 u5),(6,AV.bool (cO h s i k)),(7,ow true 2 m 1),(8,int i64 (u2+1))] u1 g))))/\(decide (u2<u4)=false->Q (AEx.exit 2) (St.mk [(0,ow true 0 n 1),(1,ow true 1 n 1),(5,int i64 u5),(6,AV.bool (cO h s i k)),(7,ow true 2 m 1),(8,int i64 u2),(23,AV.bool (decide (u2<u4)))] u1 g))) ((i:Int))) ((n:Int))) ((h i).getD k false)) ((k:Int))) ([cells false (n*1) fun (a:Nat)=>fz Fz.auto 1 ((h a).length) fun (i x:Nat)=>aw (h a) i,cells false (n*1) fun (a:Nat)=>aw s a,cells false (m*1) fun (a:Nat)=>ag (aE (bh h n i) k) a])) (fun _=>by kernel_rfl) ⟨fun c1=>have c1:(k:Int)<(n:Int):=(of_decide_eq_true c1);⟨by omega,by omega,by omega,by omega,by omega,by omega,by omega,by omega,fun c2=>have c2:(h i).getD k false=true/\(h k).getD i false=true:=⟨(cT c2).1,(cT c2).2⟩;⟨by omega,by omega,by omega,by omega,by omega,?_,by omega,?_⟩,fun c2=>have c2:(h i).getD k false=false∨(h k).getD i false=false:=((fE c2).imp (fun h=>h) (fun h=>h));⟨by omega,by omega,by omega,by omega,by omega,by omega,fun c3=>have c3:(h i).getD k false=true/\s.getD k false=false:=⟨(cT c3).1,((Bool.not_eq_true' _).mp (cT c3).2)⟩;⟨by omega,?_⟩,fun c3=>have c3:(h i).getD k false=false∨s.getD k false=true:=((fE c3).imp (fun h=>h) (fun h=>((Bool.not_eq_false' _).mp h)));⟨by omega,?_⟩⟩⟩,fun c1=>have c1:¬(k:Int)<(n:Int):=(of_decide_eq_false c1);?_⟩
     ·intro c hc
      rw[hm] at hc ⊢
      exact(nG (z:=fun _=>.int .i64 0) hc).trans (by kernel_rfl)
     ·rw[c2.1,c2.2,if_pos (by rfl)] at hns
      rw[c2.1,c2.2,Bool.true_and,Bool.true_or,Bool.and_true] at hfs
      refine(aU (k+1,m+1) (bi [0,1,4] 5 rfl rfl rfl rfl rfl ⟨Le.refl _,Le.refl _,Le.refl _,Le.of_eq ?_,Le.refl _,Le.refl _,trivial⟩ ⟨?_,?_,?_,trivial⟩) ?_ ?_)
      ·show AV.bool _=AV.bool _
       rw[hfs]
      ·exact⟨rfl,Nat.le_refl _,fun j _=>Le.of_eq rfl⟩
      ·exact⟨rfl,Nat.le_refl _,fun j _=>Le.of_eq rfl⟩
      ·show LeO (.cells false ((m+1)*1) (ag (aE (bh h n i) k++[(k:Int)]))) (.cells false ((m+1)*1) (ag (aE (bh h n i) (k+1))))
       rw[hns]
       exact LeO.refl _
      ·refine⟨by show k+1<=_;omega,?_⟩
       show m+1=(aE (bh h n i) (k+1)).length
       rw[hns,List.length_append,<-hm]
       rfl
      ·show n-(k+1)<n-k
       omega
     ·have hb:((h i).getD k false&&(h k).getD i false)=false:=by rcases c2 with c|c <;> rw[c] <;> simp
      rw[hb,if_neg (by decide)] at hns
      rw[hb,c3.1,c3.2] at hfs
      refine(aU (k+1,m) (bc ⟨Le.refl _,Le.refl _,Le.refl _,(Le.of_eq ?_),Le.refl _,(Le.of_eq (by kernel_rfl)),trivial⟩ ⟨LeO.rflc,LeO.rflc,?_,trivial⟩ rfl) ?_ ?_)
      ·show AV.bool _=AV.bool _
       rw[hfs]
       simp
      ·show LeO (.cells false (m*1) (ag (aE (bh h n i) k))) (.cells false (m*1) (ag (aE (bh h n i) (k+1))))
       rw[hns]
       exact LeO.refl _
      ·refine⟨by show k+1<=_;omega,?_⟩
       show m=(aE (bh h n i) (k+1)).length
       rw[hns,<-hm]
      ·show n-(k+1)<n-k
       omega
     ·have hb:((h i).getD k false&&(h k).getD i false)=false:=by rcases c2 with c|c <;> rw[c] <;> simp
      have hb2:((h i).getD k false && !s.getD k false)=false:=by rcases c3 with c|c <;> rw[c] <;> simp
      rw[hb,if_neg (by decide)] at hns
      rw[hb,hb2] at hfs
      refine(aU (k+1,m) (bc ⟨Le.refl _,Le.refl _,Le.refl _,(Le.of_eq ?_),Le.refl _,(Le.of_eq (by kernel_rfl)),trivial⟩ ⟨LeO.rflc,LeO.rflc,?_,trivial⟩ rfl) ?_ ?_)
      ·show AV.bool _=AV.bool _
       rw[hfs]
       simp
      ·show LeO (.cells false (m*1) (ag (aE (bh h n i) k))) (.cells false (m*1) (ag (aE (bh h n i) (k+1))))
       rw[hns]
       exact LeO.refl _
      ·refine⟨by show k+1<=_;omega,?_⟩
       show m=(aE (bh h n i) (k+1)).length
       rw[hns,<-hm]
      ·show n-(k+1)<n-k
       omega
     ·exfalso;omega
    ·have hke:k=n:=by omega
     subst hke
     subst hm
     have hbb:decide ((k:Int)<(k:Int))=false:=decide_eq_false (by omega)
     cases hf:cO h s i k with
     |true=>
      have hck:=rK hin hf hno
      have e:eN h s k=aE (bh h k i) k:=by unfold eN;rw[hck]
      rw[e]
      refine vcQ [[1,0,1,0,0,1,0,0,1,1,0,1,0,0,0,1,0]] (lkL [(7,[0,1,5,6,7,8,23])]) (fun _=>[]) (fun Q=>(fun (u1:St R.σ)=>(fun (u2:Int)=>(decide (u2<u2)=true->Wp Tryd.prog R 62 2 Rd.top (ae Tryd.prog 84) [1,0,1,0,0,1,0,0,1,1,0,1,0,0,0,1,0] (aq Tryd.prog R 62 2 Rd.top (ae Tryd.prog 84) Q [Kont.seq [1,0,1,0,0,1,0,0,1,1,0,1,0,0,1]]) u1)/\(decide (u2<u2)=false->Q (AEx.exit 2) u1)) ((k:Int))) (St.mk [(0,ow true 0 k 1),(1,ow true 1 k 1),(5,int i64 (i:Int)),(6,AV.bool true),(7,ow true 2 ((aE (bh h k i) k).length) 1),(8,int i64 (k:Int)),(23,AV.bool (decide ((k:Int)<(k:Int))))] [cells false (k*1) fun (a:Nat)=>fz Fz.auto 1 ((h a).length) fun (i x:Nat)=>aw (h a) i,cells false (k*1) fun (a:Nat)=>aw s a,cells false ((aE (bh h k i) k).length*1) fun (a:Nat)=>ag (aE (bh h k i) k) a] g)) (fun _=>by kernel_rfl) ⟨fun hcc=>(nomatch (hbb.symm.trans hcc)),fun _=>?_⟩
      refine⟨_,To.refl _,vcQ [[1,0,1,0,0,1,0,0,1,1,1,1,1]] (lkL [(13,[0,1,5,7,60]),(14,[4])]) (fun _=>[]) (fun Q=>(fun (u1:List AObj)=>(true=true->Q AEx.ret (St.mk [(4,ow true 2 ((aE (bh h k i) k).length) 1)] u1 g))/\(true=false->Wp Tryd.prog R 62 2 Rd.top (ae Tryd.prog 84) [1,0,1,0,0,1,0,0,1,1,1,1,1] (aq Tryd.prog R 62 2 Rd.top (ae Tryd.prog 84) Q []) (St.mk [(0,ow true 0 k 1),(1,ow true 1 k 1),(5,int i64 (i:Int)),(7,ow true 2 ((aE (bh h k i) k).length) 1),(60,AV.bool true)] u1 g))) ([cells false (k*1) fun (a:Nat)=>fz Fz.auto 1 ((h a).length) fun (i x:Nat)=>aw (h a) i,cells false (k*1) fun (a:Nat)=>aw s a,cells false ((aE (bh h k i) k).length*1) fun (a:Nat)=>ag (aE (bh h k i) k) a])) (fun _=>by kernel_rfl) ⟨fun _=>?_,fun h=>(nomatch h)⟩⟩
      refine⟨_,To.refl _,?_⟩
      show bv Tryd.prog R 2 _ _ _ _ .ret _
      exact dB (.ow true 2 (aE (bh h k i) k).length 1) _ rfl trivial (bi (s':=⟨[(0,.ow true 2 (aE (bh h k i) k).length 1)],[.cells false (k*1) (hgC h),.cells false (k*1) (aw s),.cells false ((aE (bh h k i) k).length*1) (ag (aE (bh h k i) k))],g⟩) [0,1,2] 3 rfl rfl rfl rfl rfl ⟨Le.refl _,trivial⟩ ⟨LeO.refl _,LeO.refl _,LeO.refl _,trivial⟩)
     |false=>
      refine vcQ [[1,0,1,0,0,1,0,0,1,1,0,1,0,0,0,1,0]] (lkL [(7,[0,1,5,6,7,8,23])]) (fun _=>[]) (fun Q=>(fun (u1:St R.σ)=>(fun (u2:Int)=>(decide (u2<u2)=true->Wp Tryd.prog R 62 2 Rd.top (ae Tryd.prog 84) [1,0,1,0,0,1,0,0,1,1,0,1,0,0,0,1,0] (aq Tryd.prog R 62 2 Rd.top (ae Tryd.prog 84) Q [Kont.seq [1,0,1,0,0,1,0,0,1,1,0,1,0,0,1]]) u1)/\(decide (u2<u2)=false->Q (AEx.exit 2) u1)) ((k:Int))) (St.mk [(0,ow true 0 k 1),(1,ow true 1 k 1),(5,int i64 (i:Int)),(6,AV.bool false),(7,ow true 2 ((aE (bh h k i) k).length) 1),(8,int i64 (k:Int)),(23,AV.bool (decide ((k:Int)<(k:Int))))] [cells false (k*1) fun (a:Nat)=>fz Fz.auto 1 ((h a).length) fun (i x:Nat)=>aw (h a) i,cells false (k*1) fun (a:Nat)=>aw s a,cells false ((aE (bh h k i) k).length*1) fun (a:Nat)=>ag (aE (bh h k i) k) a] g)) (fun _=>by kernel_rfl) ⟨fun hcc=>(nomatch (hbb.symm.trans hcc)),fun _=>?_⟩
      refine⟨_,To.refl _,vcQ [[1,0,1,0,0,1,0,0,1,1,1,1,0]] (lkL [(13,[0,1,5,7,60])]) (fun _=>[]) (fun Q=>(fun (u1:St R.σ)=>(false=true->Wp Tryd.prog R 62 2 Rd.top (ae Tryd.prog 84) [1,0,1,0,0,1,0,0,1,1,1,1,0] (aq Tryd.prog R 62 2 Rd.top (ae Tryd.prog 84) Q []) u1)/\(false=false->Q AEx.normal u1)) (St.mk [(0,ow true 0 k 1),(1,ow true 1 k 1),(5,int i64 (i:Int)),(7,ow true 2 ((aE (bh h k i) k).length) 1),(60,AV.bool false)] [cells false (k*1) fun (a:Nat)=>fz Fz.auto 1 ((h a).length) fun (i x:Nat)=>aw (h a) i,cells false (k*1) fun (a:Nat)=>aw s a,cells false ((aE (bh h k i) k).length*1) fun (a:Nat)=>ag (aE (bh h k i) k) a] g)) (fun _=>by kernel_rfl) ⟨fun h=>(nomatch h),fun _=>?_⟩⟩
      refine vcQ [] (lkL [(3,[0,1,5])]) (fun _=>[]) (fun Q=>(-9223372036854775808<=(i:Int)+1/\(i:Int)+1<=9223372036854775807)/\Q AEx.normal (St.mk [(0,ow true 0 k 1),(1,ow true 1 k 1),(5,int i64 ((i:Int)+1))] [cells false (k*1) fun (a:Nat)=>fz Fz.auto 1 ((h a).length) fun (i x:Nat)=>aw (h a) i,cells false (k*1) fun (a:Nat)=>aw s a,cells false ((aE (bh h k i) k).length*1) fun (a:Nat)=>ag (aE (bh h k i) k) a] g)) (fun _=>by kernel_rfl) ⟨by omega,?_⟩
      refine(aU (i+1) (bi [0,1] 3 rfl rfl rfl rfl rfl ⟨Le.refl _,Le.refl _,Le.refl _,trivial⟩ ⟨?_,?_,trivial⟩) ?_ ?_)
      ·exact⟨rfl,Nat.le_refl _,fun j _=>Le.of_eq rfl⟩
      ·exact⟨rfl,Nat.le_refl _,fun j _=>Le.of_eq rfl⟩
      ·refine⟨?_,fun j hj=>?_⟩
       ·rcases Nat.lt_or_ge i (eo h s k) with h1|h1
        ·exact h1
        ·have:i=eo h s k:=by omega
         rw[this,xR hex] at hf
         cases hf
       ·rcases Nat.lt_or_ge j i with h1|h1
        ·exact hno j h1
        ·rw[show j=i by omega];exact hf
      ·omega
  ·exfalso;omega
end Go.Avm.Pack
namespace Go.Avm.Pack
open Go Go.Avm Go.Proofs Go.RowKit Go.Shelf
attribute [local go_sem] Oper.semAt_some
theorem xT (n:Nat)(hn:1<=n)(l s:Nat)(hs:s<2^24)(A:Addr)(FM:Mem)(ht:cE gsT FM)(J:Nat->World->Prop)(E:Ending->World->Prop)(K:Nat)
  (hJ:∀k W,J k W->W.cell? A=some (.int .u64 (Tb.cutN s k))/\W.frozen? A=false/\(∀b o,FM b=some o->W.heap[b]? = some o))
  (hJg:∀k W W',J k W->W.grownBy W' none->J k W')
  (hY:∀k W,k<K->k<(aj s).length->J k W->YieldAt Fence.wide (n-1) Tryd.prog l #[.int .i64 ((aj s).getD k 0)] W fun e W'=>e=.returned (.bool true)/\W'.cell? A=some (.int .u64 (Tb.cutN s k))/\W'.frozen? A=false/\J (k+1) (W'.setCell A (.int .u64 (Tb.cutN s (k+1)))))
  (hE:∀W,K<(aj s).length->J K W->YieldAt Fence.wide (n-1) Tryd.prog l #[.int .i64 ((aj s).getD K 0)] W fun e W'=>(e=.returned (.bool false)∨∃ch,e=.panicked ch)/\E e W')
  (W:World) (h0:J 0 W) :
  CallsIn Fence.wide n Tryd.prog 105 #[.func (.yield l) #[] #[],.pointer (some A)] W fun e W'=>((aj s).length<=K/\(∃v,e=.returned v)/\J (aj s).length W')∨(K<(aj s).length/\(((∃v,e=.returned v)/\E (.returned (.bool false)) W')∨∃ch,e=.panicked ch/\E (.panicked ch) W')):=by
 refine callsIn_of_wp Tryd.func105 rfl trivial ?_ rfl
 simp only[Tryd.ntmps105,List.size_toArray,List.length_cons,List.length_nil,Nat.reduceAdd,Nat.reduceSub,Array.replicate_succ,Array.replicate_zero,List.push_toArray,List.append_toArray,List.nil_append,List.cons_append]
 gi_wp2
 gi_loopw [] (fun wr=>∃k,k<=(aj s).length/\k<=K/\J k wr) (fun wr=>match wr.cell? A with|some (.int _ v)=>v.toNat|_=>0)
 case atStart=>exact⟨0,Nat.zero_le _,Nat.zero_le _,h0⟩
 case round=>
  obtain⟨k,hk,hkK,hJk⟩:=hrel
  obtain⟨hc,hf,hFM⟩:=hJ k wr hJk
  have hlt:=Tb.cutN_lt hs k
  rcases Nat.lt_or_ge k (aj s).length with hkl|hkl
  ·obtain⟨m,hm⟩:=Tb.cutN_in hs hkl
   have k1:0<Tb.cutN s k:=by
    rw[hm]
    exact Nat.mul_pos (Nat.pow_pos (by decide)) (by omega)
   have k2:=ku hm hlt
   clear hm
   have hz:¬((Tb.cutN s k:Nat):Int)=0:=by omega
   have htz:=fun m=>qt m (Tb.cutN s k) k1 hlt wr FM hFM ht
   rcases Nat.lt_or_ge k K with hlK|hgK
   ·have hYk:=fun W=>hY k W hlK hkl
    obtain⟨x,hx⟩:∃x,(aj s).getD k 0=x:=⟨_,rfl⟩
    rw[hx] at k2
    simp only[hx] at hYk
    simp only[k2] at htz
    gi_wp2
    refine⟨trivial,(htz _).mono ?_⟩
    rintro e w' ⟨rfl,hg⟩
    have hJ':=hJg k wr w' hJk hg
    obtain⟨hc',hf',hFM'⟩:=hJ k w' hJ'
    obtain⟨fn,tmps,assign,body,hy,hR⟩:=hYk w' hJ'
    dsimp only
    gi_wp2
    refine hR.mono ?_
    rintro e W3 ⟨rfl,hc3,hf3,hJ3⟩
    dsimp only
    gi_wp2
    have hb:bits .and .u64 ((Tb.cutN s k:Nat):Int) (((Tb.cutN s k:Nat):Int)-1)=((Tb.cutN s (k+1):Nat):Int):=qu _ hlt k1
    rw[hb]
    refine⟨⟨k+1,hkl,hlK,hJ3⟩,?_⟩
    rw[(hJ _ _ hJ3).1,hc]
    show((Tb.cutN s (k+1):Nat):Int).toNat<((Tb.cutN s k:Nat):Int).toNat
    have:Tb.cutN s (k+1)<=Tb.cutN s k-1:=Nat.and_le_right
    omega
   ·have hkK:K=k:=by omega
    subst hkK
    have hYk:=fun W=>hE W hkl
    obtain⟨x,hx⟩:∃x,(aj s).getD K 0=x:=⟨_,rfl⟩
    rw[hx] at k2
    simp only[hx] at hYk
    simp only[k2] at htz
    gi_wp2
    refine⟨trivial,(htz _).mono ?_⟩
    rintro e w' ⟨rfl,hg⟩
    have hJ':=hJg K wr w' hJk hg
    obtain⟨hc',hf',hFM'⟩:=hJ K w' hJ'
    obtain⟨fn,tmps,assign,body,hy,hR⟩:=hYk w' hJ'
    dsimp only
    gi_wp2
    refine hR.mono ?_
    rintro e W3 ⟨he,hE3⟩
    rcases he with rfl|⟨ch,rfl⟩
    ·dsimp only
     gi_wp2
     (try simp only[Exit.inBlock,Exit.then])
     refine bodyPost_ret (results_none rfl _ _ _) rfl ?_
     exact .inr ⟨hkl,.inl ⟨⟨_,rfl⟩,hE3⟩⟩
    ·exact⟨rfl,.inr ⟨hkl,.inr ⟨ch,rfl,hE3⟩⟩⟩
  ·have hz:((Tb.cutN s k:Nat):Int)=0:=by rw[show k=(aj s).length by omega,Tb.cutN_end hs];rfl
   have hkk:k=(aj s).length:=by omega
   subst hkk
   gi_wp2
   go_end0
   exact .inl ⟨hkK,⟨_,rfl⟩,hJk⟩
end Go.Avm.Pack
namespace Go.Avm.Pack
open Go Go.Avm Go.Proofs
open Go.IntKind (i64 u64)
open Go.Avm.AV (int bool any fz fp sl ow ref fn ifc val agg tup)
open Go.Avm.AObj (cells dead)
open Go.Avm.Oc (ret)
set_option maxRecDepth 4000
end Go.Avm.Pack
namespace Go.Avm.Pack
open Go Go.Avm Go.Proofs Go.RowKit Go.Shelf
section
variable {R:Res}
theorem xU [Tab LT R]{nt k0:Nat}{Q:AEx->St R.σ->Prop}{s:St R.σ}{t:Nat}{ps:Array Tmp}{assign body:Code}{fa fb:Nat->AV}{m S K:Nat}{H:List AObj}
  (hf:lk s.fr t=.fn 105 0 fa 1 fb) (hfb:fb 0=.ref m 0) (hS:S<2^24) (h0:s.hp=H++[.cells false 1 (fun _=>.int .u64 S)]) (hl:H.length=m)
  (hlive:d8 (H++[.cells false 1 (fun _=>.int .u64 S)])) (hBO:fI m H) (hlen:1=ps.toList.length) (hlt:bU ps.toList nt=true) (ts:List Nat) (hBf:hZ ts (fun t=>Below m (lk s.fr t)))
  (hround:∀k,k<K->k<(aj S).length->mB Tryd.prog R nt assign body none H s.g ⟨du ps.toList [.int .i64 (((aj S).getD k 0:Nat):Int)] (d9 ts s.fr),H,s.g⟩)
  (hlast:K<(aj S).length->∀l,wpA Tryd.prog R nt (m+1) (.inr l) assign (fun e s1=>e=.normal/\wpA Tryd.prog R nt s1.hp.length (.inr l) body (ko (fun e s3=>Q e ⟨s.fr,s3.hp,s3.g⟩)) s1) ⟨du ps.toList [.int .i64 (((aj S).getD K 0:Nat):Int)] s.fr,H++[.dead],s.g⟩)
  (hdone:(aj S).length<=K->Q .normal ⟨s.fr,H++[.dead],s.g⟩) :
  wpA Tryd.prog R nt k0 .top (.rangeFunc (.tmp t) ps assign body) Q s:=by
 intro C hC n a w ⟨FM,Z,hs⟩
 refine wpIn_rangeFunc (fun fn hfn=>?_)
 obtain⟨D,hD⟩:∃D,D=w.heap.size:=⟨_,rfl⟩
 obtain⟨L,hL⟩:∃L,L=w.heap.size+1:=⟨_,rfl⟩
 have hne:D≠L:=by omega
 obtain⟨rec,hrec⟩:∃rec:LoopState->Option Code->Loop,rec=fun st pe=>{ state:=st,pending:=pe,fn,tmps:=a.tmps,params:=ps,assign,body,defers:=D }:=⟨_,rfl⟩
 obtain⟨W1,hW1⟩:∃W1,(w.alloc (.deferred (some []))).alloc (.loop (rec .ready none))=W1:=⟨_,rfl⟩
 have hL1:W1.heap[L]? = some (.loop (rec .ready none)):=by
  rw[<-hW1,hL];have:=World.alloc_heap_new (w.alloc (.deferred (some []))) (.loop (rec .ready none));rwa [World.size_alloc] at this
 have hD1:W1.heap[D]? = some (.deferred (some [])):=by
  rw[<-hW1,hD];exact(_root_.Go.RowKit.Below.heap_alloc _ _ _ (by simp)).trans (World.alloc_heap_new w _)
 have hsz1:W1.heap.size=w.heap.size+2:=by rw[<-hW1];simp
 obtain⟨okA,goA⟩:=gZ hs.ok (.deferred (some []))
 obtain⟨ok1,goB⟩:=gZ okA (.loop (rec .ready none))
 have go1:=goA.trans goB
 rw[hW1] at ok1 go1
 obtain⟨o,ho⟩:∃o:AObj,o=.cells false 1 (fun _=>.int .u64 S):=⟨_,rfl⟩
 rw[<-ho] at h0 hlive
 have hlen0:s.hp.length=m+1:=by rw[h0];simp[hl]
 have hZl:Z.length=m+1:=by rw[hs.ok.rel.len,hlen0]
 obtain⟨pb,hpb⟩:∃pb,Z[m]? = some pb:=⟨_,List.getElem?_eq_getElem (by omega)⟩
 obtain⟨Z0,hZ0⟩:∃Z0,Z0=Z.take m:=⟨_,rfl⟩
 have hsub0:Sub Z0 Z:=fun i p hi=>by
  rw[hZ0,List.getElem?_take] at hi
  split at hi
  ·exact hi
  ·cases hi
 have hlt0:∀{i p},Z0[i]? = some p->i<m:=fun {i p} hi=>by
  rw[hZ0,List.getElem?_take] at hi
  split at hi
  ·assumption
  ·cases hi
 have hInB:∀b,InB Z b↔InB Z0 b∨InB [pb] b:=fun b=>by
  constructor
  ·rintro ⟨p,hp,hb,hre⟩
   obtain⟨i,hi⟩:=List.getElem?_of_mem hp
   have:i<m+1:=by rw[<-hZl];exact(List.getElem?_eq_some_iff.1 hi).1
   rcases Nat.lt_or_ge i m with h|h
   ·exact .inl ⟨p,List.mem_of_getElem? (i:=i) (by rw[hZ0,List.getElem?_take,if_pos h];exact hi),hb,hre⟩
   ·have:i=m:=by omega
    subst this
    rw[hpb] at hi;cases hi
    exact .inr ⟨pb,by simp,hb,hre⟩
  ·rintro (⟨p,hp,hb,hre⟩|⟨p,hp,hb,hre⟩)
   ·obtain⟨i,hi⟩:=List.getElem?_of_mem hp
    exact⟨p,bt (hsub0 i p hi),hb,hre⟩
   ·have:p=pb:=by simpa using hp
    subst this
    exact⟨p,bt hpb,hb,hre⟩
 have hgo:∀i,i<m->af s.hp i=af H i:=fun i hi=>by rw[h0,iU (by rw[hl];exact hi)]
 have hgm:af s.hp m=o:=by rw[h0,iV (by rw[hl];exact Nat.le_refl _),hl,Nat.sub_self];rfl
 have hlv:∀i,i<m+1->aM (af s.hp i)=true:=fun i hi=>by rw[h0];exact iX hlive i (by simp[hl];omega)
 have rel0:∀W,HRel FM Z s.hp W->HRel FM Z0 H W:=fun W hr=>by
  refine⟨hr.fm,by rw[hZ0,List.length_take,hl,hZl];omega,fun i p hi=>?_,fun i j p q hi hj _ _ e=>hr.inj i j p q (hsub0 i p hi) (hsub0 j q hj) (hlv i (by have:=hlt0 hi;omega)) (hlv j (by have:=hlt0 hj;omega)) e⟩
  obtain⟨k1,k2⟩:=hr.obj i p (hsub0 i p hi)
  rw[hgo i (hlt0 hi)] at k2
  refine⟨k1,?_⟩
  rw[hZ0]
  exact kh k2 (kg hBO i)
 have relI:∀W,HRel FM Z s.hp W->HRel FM [pb] [o] W:=fun W hr=>by
  refine⟨hr.fm,rfl,fun i p hi=>?_,fun i j p q hi hj _ _ _=>?_⟩
  ·have e:i=0:=by
    have:=(List.getElem?_eq_some_iff.1 hi).1
    simpa using this
   subst e
   have hi:pb=p:=by simpa using hi
   subst hi
   obtain⟨k1,k2⟩:=hr.obj m pb hpb
   rw[hgm] at k2
   refine⟨k1,?_⟩
   have:=kh (k:=0) k2 (by rw[ho];exact fun _ _=>trivial)
   exact ki (fun i p hi=>by simp at hi) this
  ·have e1:=(List.getElem?_eq_some_iff.1 hi).1
   have e2:=(List.getElem?_eq_some_iff.1 hj).1
   simp at e1 e2
   omega
 have hdis:∀b,InB [pb] b->¬InB Z0 b:=fun b ⟨p,hp,hb,hre⟩ ⟨q,hq,hb',hre'⟩=>by
  have:p=pb:=by simpa using hp
  subst this
  obtain⟨i,hi⟩:=List.getElem?_of_mem hq
  have:=hlt0 hi
  have:=hs.ok.rel.inj i m q p (hsub0 i q hi) hpb (hlv i (by omega)) (hlv m (by omega)) (by rw[hb,hb'])
  omega
 have nIn:∀X,w.heap.size<=X->¬InB Z X:=fun X hX ⟨p,hp,hb,hre⟩=>by
  obtain⟨i,hi⟩:=List.getElem?_of_mem hp
  have:=(hs.ok.rel.obj i p hi).1 hre
  omega
 have nB:∀X,w.heap.size<=X->¬R.B s.g X:=fun X hX hb=>by have:=(hs.ok.bd X hb).1;omega
 have nF:∀X,w.heap.size<=X->FM X=none:=fun X hX=>by
  cases hx:FM X with
  |none=>rfl
  |some o=>have:=(Array.getElem?_eq_some_iff.1 (hs.ok.rel.fm X o hx)).1;omega
 have hev:Den FM Z (.fn 105 0 fa 1 fb) (a.eval (.tmp t)):=by rw[<-hf];exact hs.fr t
 obtain⟨xs,ys,hu,hxs,hys,hda,hdb⟩:=hev
 have hfr0:∀t,Den FM Z0 (lk (d9 ts s.fr) t) (a.tmps.getD t undef):=mA (fun t=>hs.fr t) (fun t ht=>mz hBf t ht) hZ0
 let u:Value:=.func (.yield L) #[] #[]
 let R2:Res:=eF (gm R D L rec) FM Z0
 let G2:R2.σ:=((s.g,.ready,none),H)
 let box:Nat->AObj:=fun k=>.cells false 1 (fun _=>.int .u64 (Tb.cutN S k))
 have hbox0:box 0=o:=ho.symm
 have hpreal:pb.2.1+1<=pb.2.2/\FM pb.1=none:=by
  obtain⟨k1,k2⟩:=hs.ok.rel.obj m pb hpb
  rw[hgm,ho] at k2
  obtain⟨cs,e,b1,b2,b3,b4,b5,b6⟩:=k2 (by omega)
  exact⟨by omega,b6 rfl⟩
 have hpin:InB [pb] pb.1:=⟨pb,by simp,rfl,by omega⟩
 obtain⟨A,hA⟩:∃A:Addr,A=⟨pb.1,pb.2.1,none⟩:=⟨_,rfl⟩
 let J:Nat->World->Prop:=fun k W=>∃FMk,Ok R2 [box k] G2 FMk [pb] W/\Goes R s.g FM Z w s.g FMk Z W/\Goes R2 G2 FM [pb] W1 G2 FMk [pb] W
 have okI:Ok R2 [box 0] G2 FM [pb] W1:=by
  rw[hbox0]
  refine⟨relI W1 ok1.rel,⟨⟨rel0 W1 ok1.rel,⟨ok1.j,hD1,hL1,⟨nF D (by omega),nF L (by omega)⟩,nB D (by omega),nB L (by omega)⟩,fun b hb=>?_⟩,fun _ _ h=>h⟩,fun b hb=>⟨?_,fun hI=>?_⟩⟩
  ·rcases hb with hb|rfl|rfl
   ·exact⟨(ok1.bd b hb).1,fun h=>(ok1.bd b hb).2 ((hInB b).2 (.inl h))⟩
   ·exact⟨by omega,fun h=>nIn _ (by omega) ((hInB _).2 (.inl h))⟩
   ·exact⟨by omega,fun h=>nIn _ (by omega) ((hInB _).2 (.inl h))⟩
  ·rcases hb with(hb|rfl|rfl)|⟨p,hp,hb,hre⟩
   ·exact(ok1.bd b hb).1
   ·omega
   ·omega
   ·obtain⟨i,hi⟩:=List.getElem?_of_mem hp
    rw[<-hb];exact(ok1.rel.obj i p (hsub0 i p hi)).1 hre
  ·rcases hb with(hb|rfl|rfl)|hb
   ·exact(ok1.bd b hb).2 ((hInB b).2 (.inr hI))
   ·exact nIn _ (by omega) ((hInB _).2 (.inr hI))
   ·exact nIn _ (by omega) ((hInB _).2 (.inr hI))
   ·exact hdis b hI hb
 have hB2:∀b,b<w.heap.size->R2.B G2 b->R.B s.g b∨InB Z0 b:=fun b hlt hb=>by
  rcases hb with(hb|rfl|rfl)|hb
  ·exact .inl hb
  ·omega
  ·omega
  ·exact .inr hb
 -- a step of the iterator's, told of the whole
 have goR:∀{FMa FMb:Mem} {Wa Wb:World},Goes R s.g FM Z w s.g FMa Z Wa->Goes R2 G2 FMa [pb] Wa G2 FMb [pb] Wb->Goes R s.g FM Z w s.g FMb Z Wb:=fun {FMa FMb Wa Wb} h k=>by
  refine⟨⟨fun b o hb=>k.ext.fm b o (h.ext.fm b o hb),fun b o hb=>?_,fun b hb=>.inl hb,fun b h1 h2 h3=>?_,Nat.le_trans h.ext.size k.ext.size,k.ext.os.trans h.ext.os,k.ext.tape.trans h.ext.tape,k.ext.output.trans h.ext.output⟩,fun b hb=>.inl hb,Sub.refl _⟩
  ·rcases k.ext.grow b o hb with h1|h1|h1|h1
   ·exact h.ext.grow b o h1
   ·exact .inr (.inl (Nat.le_trans h.ext.size h1))
   ·exact .inr (.inr (.inl ((hInB b).2 (.inr h1))))
   ·rcases Nat.lt_or_ge b w.heap.size with hlt|hge
    ·rcases hB2 b hlt h1 with h2|h2
     ·exact .inr (.inr (.inr h2))
     ·exact .inr (.inr (.inl ((hInB b).2 (.inl h2))))
    ·exact .inr (.inl hge)
  ·refine(k.ext.keep b (Nat.lt_of_lt_of_le h1 h.ext.size) (fun hI=>h2 ((hInB b).2 (.inr hI))) (fun hb=>?_)).trans (h.ext.keep b h1 h2 h3)
   rcases hB2 b h1 hb with h4|h4
   ·exact h3 h4
   ·exact h2 ((hInB b).2 (.inl h4))
 have hJ:∀k W,J k W->W.cell? A=some (.int .u64 (Tb.cutN S k))/\W.frozen? A=false/\(∀b o,FM b=some o->W.heap[b]? = some o):=fun k W ⟨FMk,okk,_,_⟩=>by
  obtain⟨k1,k2⟩:=okk.rel.obj 0 pb rfl
  obtain⟨cs,e,b1,b2,b3,b4,_,b6⟩:=k2 (by omega)
  obtain⟨x,c1,c2,c3⟩:=b4 0 (by omega)
  have hx:x=.int .u64 (Tb.cutN S k):=c3
  subst hx
  refine⟨by rw[hA];simp only[World.cell?,b1];simpa using c1,by rw[hA];simp[World.frozen?,b1],fun b o hb=>okk.rel.fm b o (okk.j.2 b o hb)⟩
 have hJg:∀k W W',J k W->W.grownBy W' none->J k W':=fun k W W' ⟨FMk,okk,h1,h2⟩ hg=>
  let ⟨x1,x2⟩:=vj okk hg
  ⟨FMk,x1,goR h1 x2,h2.trans x2⟩
 have hset:∀k W,(∃FMk,Ok R2 [box k] G2 FMk [pb] W/\Goes R s.g FM Z w s.g FMk Z W/\Goes R2 G2 FM [pb] W1 G2 FMk [pb] W)->J (k+1) (W.setCell A (.int .u64 (Tb.cutN S (k+1)))):=fun k W ⟨FMk,okk,h1,h2⟩=>by
  obtain⟨k1,k2⟩:=okk.rel.obj 0 pb rfl
  obtain⟨cs,e,b1,b2,b3,b4,_,b6⟩:=k2 (by omega)
  have hAb:A.block=pb.1:=by rw[hA]
  have hAb':(⟨pb.1,pb.2.1,none⟩:Addr).block=pb.1:=rfl
  have hF:FMk pb.1=none:=b6 rfl
  have keep:∀b,b≠pb.1->(W.setCell A (.int .u64 (Tb.cutN S (k+1)))).heap[b]? = W.heap[b]?:= fun b hb=>RowKit.Below.heap_setCell _ _ _ b (by rw[hAb];exact hb)
  have hsz:(W.setCell A (.int .u64 (Tb.cutN S (k+1)))).heap.size=W.heap.size:=by
   show(W.heap.modify _ _).size=_
   rw[Array.size_modify]
  have hnew:(W.setCell A (.int .u64 (Tb.cutN S (k+1)))).heap[pb.1]? = some (.cells (cs.setIfInBounds pb.2.1 (.int .u64 (Tb.cutN S (k+1)))) e (0,0)):=by
   show(W.heap.modify A.block _)[pb.1]? = _
   rw[hAb,Array.getElem?_modify,b1,hA]
   simp
  have hrel:HRel FMk [pb] [box (k+1)] (W.setCell A (.int .u64 (Tb.cutN S (k+1)))):=by
   refine⟨fun b o hb=>(keep b (fun e=>by rw[e,hF] at hb;cases hb)).trans (okk.rel.fm b o hb),rfl,fun i p hi=>?_,fun i j p q hi hj _ _ _=>?_⟩
   ·have e0:i=0:=by
     have:=(List.getElem?_eq_some_iff.1 hi).1
     simpa using this
    subst e0
    have hi:pb=p:=by simpa using hi
    subst hi
    refine⟨fun h=>by rw[hsz];exact k1 h,fun _=>⟨_,e,hnew,by rw[Array.size_setIfInBounds];exact b2,by rw[Array.size_setIfInBounds];exact b3,fun j hj=>?_,fun h=>(by cases h),fun _=>hF⟩⟩
    have:j=0:=by omega
    subst this
    refine⟨.int .u64 (Tb.cutN S (k+1)),?_,rfl,rfl⟩
    show(cs.setIfInBounds pb.2.1 _)[pb.2.1]? = _
    rw[Array.getElem?_setIfInBounds_self_of_lt (by omega)]
   ·have e1:=(List.getElem?_eq_some_iff.1 hi).1
    have e2:=(List.getElem?_eq_some_iff.1 hj).1
    simp at e1 e2
    omega
  obtain⟨x1,x2⟩:=eZ (hp':=[box (k+1)]) (Z':=[pb]) (w':=W.setCell A (.int .u64 (Tb.cutN S (k+1)))) okk hrel ⟨fun _ _ h=>h,fun _ _ h=>.inl h,fun _ h=>.inl h,fun b _ h _=>keep b (fun e=>h (by rw[e];exact hpin)),Nat.le_of_eq hsz.symm,rfl,rfl,rfl⟩ (Sub.refl _)
  exact⟨FMk,x1,goR h1 x2,h2.trans x2⟩
 have hargI:∀(v:Nat) FMk (Zx:Plc),bJ FMk Zx [.int .i64 (v:Int)] #[.int .i64 (v:Int)]:=fun v FMk Zx=>⟨rfl,fun i hi=>by
  have:i=0:=by simpa using hi
  subst this
  rfl⟩
 have hY:∀k W,k<K->k<(aj S).length->J k W->YieldAt Fence.wide (2-1) Tryd.prog L #[.int .i64 (((aj S).getD k 0:Nat):Int)] W fun e W'=>e=.returned (.bool true)/\W'.cell? A=some (.int .u64 (Tb.cutN S k))/\W'.frozen? A=false/\J (k+1) (W'.setCell A (.int .u64 (Tb.cutN S (k+1)))):=by
  rintro k W hk hkN ⟨FMk,okk,h1,h2⟩
  have hv:=pM (P:=Tryd.prog) (R:=R) (L:=L) hrec hs.size hfr0 hne (items:=[.int .i64 (((aj S).getD k 0:Nat):Int)]) hlen hlt (by exact⟨trivial,trivial⟩) (jmp:=none) (hp:=H) (hp':=H) (g:=s.g) (g':=s.g) rfl (hround k hk hkN) [box k]
  rcases hv.h with⟨f,_,_,he,_⟩|⟨l,he,hq⟩
  ·cases he
  ·cases he
   obtain⟨fn',tmps',assign',body',hr,hR⟩:=hq FMk [pb] W _ okk (hargI _ _ _)
   refine⟨fn',tmps',assign',body',hr,(hR .top _).mono ?_⟩
   rintro e W' ⟨FM',Z',⟨v,rfl,hden⟩,okp,gop⟩
   obtain rfl:Z'=[pb]:=by
    have hl1:Z'.length=1:=okp.rel.len
    match Z',hl1 with
    |[q],_=>
     have:=gop.sub 0 pb rfl
     cases this;rfl
   have hj:J k W':=⟨FM',okp,goR h1 gop,h2.trans gop⟩
   obtain⟨j1,j2,_⟩:=hJ k W' hj
   refine⟨by rw[show v=_ from hden];rfl,j1,j2,hset k W' hj⟩
 have okDead:∀{k FMk W},Ok R2 [box k] G2 FMk [pb] W->Goes R s.g FM Z w s.g FMk Z W->Ok R (H++[.dead]) s.g FMk Z W/\W.heap[D]? = some (.deferred (some []))/\W.heap[L]? = some (.loop (rec .ready none))/\Nb R D s.g FMk Z W/\Nb R L s.g FMk Z W:=by
  intro k FMk W okk hg
  obtain⟨okL,hmono⟩:=okk.j
  obtain⟨jR,hD3,hL3,⟨fD,fL⟩,bD,bL⟩:=okL.j
  have okR:=mq okL
  have hgd:∀i,i<m->af (H++[.dead]) i=af H i:=fun i hi=>iU (by rw[hl];exact hi)
  have hgdm:af (H++[.dead]) m=.dead:=by rw[iV (by rw[hl];exact Nat.le_refl _),hl,Nat.sub_self];rfl
  have hback:∀i p,Z[i]? = some p->(i<m/\Z0[i]? = some p)∨(i=m/\p=pb):=fun i p hi=>by
   have:i<m+1:=by rw[<-hZl];exact(List.getElem?_eq_some_iff.1 hi).1
   rcases Nat.lt_or_ge i m with h|h
   ·exact .inl ⟨h,by rw[hZ0,List.getElem?_take,if_pos h];exact hi⟩
   ·have:i=m:=by omega
    subst this
    rw[hpb] at hi;cases hi
    exact .inr ⟨rfl,rfl⟩
  have hnl:∀i p,Z[i]? = some p->aM (af (H++[.dead]) i)=true->i<m/\Z0[i]? = some p:=fun i p hi hv=>by
   rcases hback i p hi with h|⟨rfl,rfl⟩
   ·exact h
   ·rw[hgdm] at hv;cases hv
  refine⟨⟨⟨okR.rel.fm,by rw[hZl];simp[hl],fun i p hi=>?_,fun i j p q hi hj hv1 hv2 e=>?_⟩,okR.j,fun b hb=>⟨(okR.bd b hb).1,fun hI=>?_⟩⟩,hD3,hL3,?_,?_⟩
  ·rcases hback i p hi with⟨h1,h2⟩|⟨rfl,rfl⟩
   ·obtain⟨k1,k2⟩:=okR.rel.obj i p h2
    rw[hgd i h1]
    exact⟨k1,ki hsub0 k2⟩
   ·rw[hgdm]
    refine⟨fun hre=>?_,trivial⟩
    have h1:=(hs.ok.rel.obj i p hi).1 hre
    have:=hg.ext.size
    omega
  ·obtain⟨a1,a2⟩:=hnl i p hi hv1
   obtain⟨b1,b2⟩:=hnl j q hj hv2
   rw[hgd i a1] at hv1
   rw[hgd j b1] at hv2
   exact okR.rel.inj i j p q a2 b2 hv1 hv2 e
  ·rcases(hInB b).1 hI with h|h
   ·exact(okR.bd b hb).2 h
   ·exact(okk.bd b (.inl (.inl hb))).2 h
  ·exact⟨(Array.getElem?_eq_some_iff.1 hD3).1,nIn D (by omega),bD,fD⟩
  ·exact⟨(Array.getElem?_eq_some_iff.1 hL3).1,nIn L (by omega),bL,fL⟩
 let C0:Cx R:=⟨s.g,FM,Z,w,[],false⟩
 have hE:∀W,K<(aj S).length->J K W->YieldAt Fence.wide (2-1) Tryd.prog L #[.int .i64 (((aj S).getD K 0:Nat):Int)] W fun e W'=>(e=.returned (.bool false)∨∃ch,e=.panicked ch)/\kp R C0 D L rec (fun e s3=>Q e ⟨s.fr,s3.hp,s3.g⟩) e W':=by
  rintro W hK ⟨FMk,okk,h1,h2⟩
  obtain⟨okd,hDW,hLW,nD,nL⟩:=okDead okk h1
  obtain⟨fn',tmps',assign',body',hr,hR⟩:=vk (P:=Tryd.prog) (R:=R) hrec (C:=C0) (by show w.heap.size<=D;omega) (by show w.heap.size<=L;omega) hne okd h1 hDW hLW nD nL hs.size (fun t=>Den.mono h1.ext.fm _ (Sub.refl _) (hs.fr t)) (hargI ((aj S).getD K 0) FMk Z) hlen hlt
   (Q:=fun e s3=>Q e ⟨s.fr,s3.hp,s3.g⟩) (by have:=hlast hK L;rw[show(H++[AObj.dead]).length=m+1 by simp[hl]];exact this)
  refine⟨fn',tmps',assign',body',hr,(hR .top _).mono ?_⟩
  intro e W' he
  have he':=he
  obtain⟨ex,j,s3,FM3,Z3,e1,_⟩:=he'
  exact⟨.inl e1,he⟩
 have hargs:(xs++#[u])++ys=#[.func (.yield L) #[] #[],.pointer (some A)]:=by
  have hxs0:xs=#[]:=Array.size_eq_zero_iff.1 hxs
  have hd0:=hdb 0 (by omega)
  rw[hfb] at hd0
  obtain⟨p,hp1,hp2⟩:=hd0
  rw[hpb] at hp1;cases hp1
  subst hxs0
  have hy:ys=#[.pointer (some A)]:=by
   refine Array.ext (by simp[hys]) (fun i h1 h2=>?_)
   have:i=0:=by simp at h2;omega
   subst this
   rw[Array.getD_eq_getD_getElem?,Array.getElem?_eq_getElem h1] at hp2
   rw[hA]
   simpa using hp2
  rw[hy]
  rfl
 have hcalls:=callsIn_wide.1 (xT 2 (by omega) L S hS A FM (Tab.h (T:=LT) hs.ok.j) J (kp R C0 D L rec (fun e s3=>Q e ⟨s.fr,s3.hp,s3.g⟩)) K hJ hJg hY hE W1 ⟨FM,okI,go1,Goes.refl _ _ _ _ _⟩)
 have hpl:cf Tryd.prog 105=true:=by kernel_rfl
 have hfn':∃fn,Tryd.prog.funcs[105]? = some fn/\fn.name ≠ "runtime.NumGoroutine"/\fn.body.isSome=true:=by
  unfold cf at hpl
  split at hpl
  ·rename_i fn hfn
   simp only[Bool.and_eq_true,bne_iff_ne,ne_eq] at hpl
   exact⟨fn,hfn,hpl.1,hpl.2⟩
  ·cases hpl
 obtain⟨fnF,hF1,hF2,hF3⟩:=hfn'
 have hF3':¬fnF.body=none:=fun h=>by rw[h] at hF3;cases hF3
 refine⟨L,[gS D],W1,{ target:=.fn (.func 105) ys,args:=xs++#[u] },W1,105,(xs++#[u])++ys,W1,?_,?_,fun _ _=>trivial,?_,fun h=>(by cases h),?_⟩
 ·rw[<-hW1,hrec,hD,hL];exact run_enterLoop_outer _ _ _ _ _
 ·simp[resolve,hu,Deferred.ofValue,u]
  rfl
 ·simp[invoke,callFunc,hF1,hF2,hF3']
 rw[hargs]
 refine(fu hcalls).mono ?_
 have hsat:∀{hp3:List AObj} {g3:R.σ} {FM3:Mem} {Z3:Plc} {W:World} (st:LoopState) (pe:Option Code),Ok R hp3 g3 FM3 Z3 W->Goes R s.g FM Z w g3 FM3 Z3 W->W.heap[D]? = some (.deferred (some []))->Nb R D g3 FM3 Z3 W->Nb R L g3 FM3 Z3 W ->
   Sat R C nt ⟨s.fr,hp3,g3⟩ FM3 Z3 { a with defers:=[gS D]++a.defers } (W.putObj L (.loop { rec st pe with state:=.exhausted })):=by
  intro hp3 g3 FM3 Z3 W st pe ok3 go3 hD3 nD nL
  have go4:Goes R s.g FM Z w g3 FM3 Z3 (W.putObj L (.loop { rec st pe with state:=.exhausted })):=go3.put (by omega) _
  refine⟨hG _ nL.off nL.offB nL.nofm ok3,hs.goes.trans go4,hs.size,?_,fun t=>Den.mono go4.ext.fm _ go4.sub (hs.fr t)⟩
  obtain⟨ms,e1,e2,e3,e4⟩:=hs.defs
  refine⟨D::ms,by rw[e1];rfl,List.nodup_cons.2 ⟨fun hmem=>?_,e2⟩,fun h=>?_,fun X hX=>?_⟩
  ·have:=(Array.getElem?_eq_some_iff.1 (e4 D hmem).obj).1
   omega
  ·rw[hC.2] at h;cases h
  ·rcases List.mem_cons.1 hX with rfl|hX
   ·exact⟨(World.putObj_heap_other hne).trans hD3,nD.off,nD.offB,nD.nofm,by have:=hs.goes.ext.size;omega⟩
   ·exact(e4 X hX).goes go4
 rintro e w3 (⟨hNK,⟨v,rfl⟩,FMk,okk,h1,h2⟩|⟨hKN,⟨⟨v,rfl⟩,hL3⟩|⟨ch,rfl,hL3⟩⟩)
 ·obtain⟨okd,hD3,hL3,nD,nL⟩:=okDead okk h1
  have hend:=run_endLoop (P:=Tryd.prog) hL3 (by rw[hrec];intro h;cases h)
  obtain⟨p,w4,hend,hp,hw4⟩:∃p w4,(Instr.endLoop L).run Tryd.prog w3=.ok p w4/\p=none/\w4=w3.putObj L (.loop { rec .ready none with state:=.exhausted }):=⟨_,_,hend,by rw[hrec],rfl⟩
  subst hp
  have hs4:=hsat .ready none okd h1 hD3 nD nL
  rw[<-hw4] at hs4
  exact⟨none,w4,hend,_,hdone hNK,FMk,Z,hs4⟩
 ·obtain⟨ex,j,s3,FM3,Z3,_,hj,hq,ok3,go3,hD3,hL3,nD,nL⟩:=hL3
  have hend:=run_endLoop (P:=Tryd.prog) hL3 (by rw[hrec];intro h;cases h)
  obtain⟨p,w4,hend,hp,hw4⟩:∃p w4,(Instr.endLoop L).run Tryd.prog w3=.ok p w4/\p=some j/\w4=w3.putObj L (.loop { rec .done (some j) with state:=.exhausted }):=⟨_,_,hend,by rw[hrec],rfl⟩
  subst hp
  have hs4:=hsat .done (some j) ok3 go3 hD3 nD nL
  rw[<-hw4] at hs4
  refine⟨some j,w4,hend,?_⟩
  cases ex with
  |normal=>cases hj
  |pan v=>cases hj
  |ret=>cases hj;exact wpIn_ret ⟨_,hq,FM3,Z3,hs4⟩
  |exit id=>cases hj;exact wpIn_exit ⟨_,hq,FM3,Z3,hs4⟩
 ·obtain⟨_,_,_,_,_,he,_⟩:=hL3
  cases he
end
end Go.Avm.Pack
namespace Go.Avm.Pack
open Go Go.Avm Go.Proofs
open Go.IntKind (i64 u64)
open Go.Avm.AV (int bool any fz fp sl ow ref fn ifc val agg tup)
open Go.Avm.AObj (cells dead)
open Go.Avm.Oc (ret)
set_option maxRecDepth 4000
section
variable {R:Res}
def xV (P:Program)(R:Res)(nt l:Nat)(b:Code)(q:List Nat)(Q:AEx->St R.σ->Prop):AEx->St R.σ->Prop
 |.normal,s=>Wp P R nt s.hp.length (.inr l) b q (ko Q) s
 |_,_=>False
theorem rL [Tab LT R]{nt k0:Nat}{b:Code}{p:List Nat}{Q:AEx->St R.σ->Prop}{s:St R.σ}(t:Nat)(psl:List Nat)(m:Nat)(hrl:j9 t psl (sub b p)=true){fa fb:Nat->AV}(hf:lk s.fr t=.fn 105 0 fa 1 fb)(hfb:fb 0=.ref m 0)
  (S K:Nat) (hS:S<2^24) (H:List AObj) (h0:To R k0 s ⟨s.fr,H++[.cells false 1 (fun _=>.int .u64 S)],s.g⟩) (hl:H.length=m)
  (hlive:d8 (H++[.cells false 1 (fun _=>.int .u64 S)])) (hBO:fI m H) (hlen:1=psl.length) (hlt:bU psl nt=true) (ts:List Nat) (hBf:hZ ts (fun t=>Below m (lk s.fr t)))
  (hround:∀k l,k<K->k<(aj S).length->Wp Tryd.prog R nt m (.inr l) b (p++[0]) (pN Tryd.prog R nt m l b (p++[1]) none H s.g) ⟨du psl [.int .i64 (((aj S).getD k 0:Nat):Int)] (d9 ts s.fr),H,s.g⟩)
  (hlast:K<(aj S).length->∀l,Wp Tryd.prog R nt (m+1) (.inr l) b (p++[0]) (xV Tryd.prog R nt l b (p++[1]) (fun e s3=>Q e ⟨s.fr,s3.hp,s3.g⟩)) ⟨du psl [.int .i64 (((aj S).getD K 0:Nat):Int)] s.fr,H++[.dead],s.g⟩)
  (hdone:(aj S).length<=K->Q .normal ⟨s.fr,H++[.dead],s.g⟩) :
  Wp Tryd.prog R nt k0 .top b p Q s:=by
 obtain⟨ps,assign,body,hc,rfl⟩:∃ps assign body,sub b p=.rangeFunc (.tmp t) ps assign body/\ps.toList=psl:=by
  unfold j9 at hrl
  split at hrl
  ·rename_i u ps assign body hs
   simp only[Bool.and_eq_true] at hrl
   have:=Nat.eq_of_beq_eq_true hrl.1
   subst this
   exact⟨ps,assign,body,hs,j6 hrl.2⟩
  ·cases hrl
 have e0:sub b (p++[0])=assign:=by rw[cS,hc];exact d7 assign
 have e1:sub b (p++[1])=body:=by rw[cS,hc];exact d7 body
 refine⟨?_⟩
 rw[hc]
 refine jW h0 (xU (s:=⟨s.fr,H++[.cells false 1 (fun _=>.int .u64 S)],s.g⟩) (K:=K) hf hfb hS rfl hl hlive hBO hlen hlt ts hBf (fun k hk hkN l=>?_) (fun hK l=>?_) hdone)
 ·have h1:=(hround k l hk hkN).h
  rw[e0] at h1
  rw[show(St.hp ⟨du ps.toList [.int .i64 (((aj S).getD k 0:Nat):Int)] (d9 ts s.fr),H,s.g⟩).length=m from hl]
  refine jS h1 (fun e s' hq=>?_)
  cases e with
  |normal=>
   have h2:=(show Wp _ _ _ _ _ _ _ _ _ from hq).h
   rw[e1] at h2
   exact⟨rfl,h2⟩
  |exit id=>exact hq.elim
  |ret=>exact hq.elim
  |pan v=>exact hq.elim
 ·have h1:=(hlast hK l).h
  rw[e0] at h1
  refine jS h1 (fun e s' hq=>?_)
  cases e with
  |normal=>
   have h2:=(show Wp _ _ _ _ _ _ _ _ _ from hq).h
   rw[e1] at h2
   exact⟨rfl,h2⟩
  |exit id=>exact hq.elim
  |ret=>exact hq.elim
  |pan v=>exact hq.elim
end
def aI (l:List Nat):Nat->AV:=fun k=>am (ah (l.getD k 0))
theorem fX {k:Nat}(l:List Nat)(j:Nat):Below k (aI l j):=trivial
theorem jt {f:Nat->Nat}(h:True){l:List Nat}{j:Nat}:aS f (aI l j)=aI l j:=rfl
theorem kY {p:Prg}{left a:Nat}(hg:hgP p a<2^24)(hl:left<2^24):(IntKind.u64.wrap ((BitVec.ofInt 64 (IntKind.u64.wrap ((BitVec.ofInt 64 (hgP p a:Int)&&&BitVec.ofInt 64 (left:Int)).toNat:Int)) &&& ~~~ BitVec.ofInt 64 (av p a:Int)).toNat:Int)==0)=dY p left a:=by
 rw[Tb.u64_and (bR hg) (bR hl),nA (Nat.lt_of_le_of_lt Nat.and_le_right hl)]
 unfold dY
 rw[Bool.eq_iff_iff,beq_iff_eq,beq_iff_eq]
 omega
theorem kZ {p:Prg}(hr:∀r,r∈p.rules.l->aQ r)(hx:∀r,r∈p.rules.l->∀l,l∈r.body.l->0<=l.atom/\l.atom<p.atoms){a c:Nat}(ha:a<24)(han:(a:Int)<p.atoms)(hc:c∈aj (hgP p a)):(c:Int)<p.atoms:=by
 obtain⟨m1,m2⟩:=Tb.mem_memN.1 hc
 rcases q0 hx ((dD hr ha).1 m2) with rfl|h
 ·exact han
 ·exact h
theorem ju {L:List Nat}{w m c:Nat}{z:Nat->AV}{old:Nat->Nat->AV}(hm:m=L.length)(hold:∀i,i<m->old i 0=aI L i)(hc:c<(m+1)*1):aI (L++[w]) c=bb 1 m old (fun i j=>ak z 0 1 (fun _=>am (ah w)) (0+i*1+j)) c:=by
 unfold bb aI
 rw[List.getD_eq_getElem?_getD]
 by_cases h:c<m*1
 ·rw[if_pos h,show c/1=c by omega,show c%1=0 by omega,hold c (by omega),List.getElem?_append_left (by omega),<-List.getD_eq_getElem?_getD]
  rfl
 ·rw[if_neg h,List.getElem?_append_right (by omega),show c-L.length=0 by omega]
  show _=ak z 0 1 _ (0+(c-m*1)/1*1+(c-m*1)%1)
  rw[dO,if_pos (by omega)]
  rfl
theorem Le.ow_nil {get:Nat->Nat->AV}{s o es:Nat}:Le (.ow true o 0 es) (.fz .nil s 0 get):=by
 intro FM Z v h
 obtain⟨a,rfl,ha⟩:=h.1 rfl
 obtain rfl:=ha rfl
 exact⟨fun _=>⟨rfl,none,0,rfl,rfl,rfl⟩,fun h=>(by cases h)⟩
theorem rM {f z:Nat->AV}{a c:Nat}(hc:c<(a+1)*1):f c=bb 1 a (fun i j=>f (i*1+j)) (fun i j=>ak z 0 1 (fun _=>f a) (0+i*1+j)) c:=by
 unfold bb
 by_cases h:c<a*1
 ·rw[if_pos h]
  show f c=f (c/1*1+c%1)
  rw[show c/1*1+c%1=c by omega]
 ·rw[if_neg h]
  show f c=ak z 0 1 _ (0+(c-a*1)/1*1+(c-a*1)%1)
  rw[dO,if_pos (by omega),show c=a by omega]
structure OrdOk (p:Prg)(x:Nat × List Nat × Nat):Prop where
 num:x.1=x.2.1.length
 few:x.1+(aj x.2.2).length<=24
 lt:x.2.2<2^24
 at_:∀a,a∈aj x.2.2->a<p.atoms.toNat
 ord:∃f,(aj x.2.2).length<f/\x.2.1++fW p f x.2.2=aX p
theorem rN {p:Prg}(hr:∀r,r∈p.rules.l->aQ r){m left:Nat}{L:List Nat}(h:OrdOk p (m,L,left))(h0:left≠0):OrdOk p (m+1,L++[av p (bz p left)],cj left (av p (bz p left)))/\(aj (cj left (av p (bz p left)))).length<(aj left).length:=by
 obtain⟨o1,o2,o3,o4,f,f1,f2⟩:=h
 simp only at o1 o2 o3 o4 f1 f2
 have hlt:=nE hr o3 h0
 obtain⟨f,rfl⟩:∃k,f=k+1:=⟨f-1,by omega⟩
 refine⟨⟨?_,?_,Nat.lt_of_le_of_lt kP o3,fun a ha=>o4 a ?_,f,?_,?_⟩,hlt⟩
 ·show m+1=(L++[_]).length
  rw[List.length_append,o1]
  rfl
 ·show m+1+(aj (cj left (av p (bz p left)))).length<=24
  omega
 ·obtain⟨m1,m2⟩:=Tb.mem_memN.1 ha
  have m2:(cj left (av p (bz p left))).testBit a=true:=m2
  rw[fj o3,Bool.and_eq_true] at m2
  exact Tb.mem_memN.2 ⟨m1,m2.1⟩
 ·show(aj (cj left _)).length<f
  omega
 ·rw[<-f2]
  show(L++[_])++fW p f _=L++(if left=0 then[] else _::fW p f _)
  rw[if_neg h0,List.append_assoc]
  rfl
theorem rO {p:Prg}(hp:1<=p.atoms/\p.atoms<=24):OrdOk p (0,[],2^p.atoms.toNat-1):=by
 have hb:∀j,(2^p.atoms.toNat-1).testBit j=decide (j<p.atoms.toNat):=fun j=>Nat.testBit_two_pow_sub_one _ _
 refine⟨rfl,?_,?_,fun a ha=>?_,25,?_,rfl⟩
 ·have:=fg (2^p.atoms.toNat-1)
  show 0+(aj (2^p.atoms.toNat-1)).length<=24
  omega
 ·have:2^p.atoms.toNat<=2^24:=Nat.pow_le_pow_right (by decide) (by omega)
  have:0<2^p.atoms.toNat:=Nat.pow_pos (by decide)
  show 2^p.atoms.toNat-1<2^24
  omega
 ·have h:=(Tb.mem_memN.1 ha).2
  have h:(2^p.atoms.toNat-1).testBit a=true:=h
  rw[hb,decide_eq_true_eq] at h
  exact h
 ·have:=fg (2^p.atoms.toNat-1)
  show(aj (2^p.atoms.toNat-1)).length<25
  omega
theorem rP (R:Res)[Tab LT R](p:Prg)(hb:aJ p=true)(g:R.σ):Does Tryd.prog R 31 [au p] [] g (.ret (.tup 2 (nth [a8 (aX p).length (fun i=>ah ((aX p).getD i 0)),.int .i64 0]))) [] g:=by
 have hroom:aH=140737488355328:=rfl
 obtain⟨hl,hr,hp,hh,hx⟩:=em hb
 have hs:dw p:=gw hb
 have hp':1<=p.atoms/\p.atoms<=24:=hp
 refine aA (nt:=57) (rs:=[.tmp 2,.tmp 3]) (k0:=0) (by kernel_rfl) (by kernel_rfl) (by kernel_rfl) rfl ?_
 have hc:((if aJ p then(0:Int) else 2) != 0)=false:=by rw[hb];rfl
 refine vcQ [[1,0,0,1,0]] (lkL [(0,[1]),(1,[1,13]),(3,[1,4]),(4,[1,4,15,16])]) (lkL [(1,[(1,ROrc.pcall (int i64 (if aJ p=true then 0 else 2)))])]) (fun Q=>(fun (u1:Int)=>(fun (u2:AObj)=>2<=2/\(∀(hp:List AObj) (g:R.σ),true=true/\Does Tryd.prog R 16 [au p] hp g (ret (int i64 u1)) hp g)/\((u1 != 0)=true->Wp Tryd.prog R 57 0 Rd.top (ae Tryd.prog 31) [1,0,0,1,0] (aq Tryd.prog R 57 0 Rd.top (ae Tryd.prog 31) Q [Kont.seq [1,0,1]]) (St.mk [(1,ref 0 0),(13,AV.bool (u1 != 0))] [u2] g))/\((u1 != 0)=false->1<=2/\Wp Tryd.prog R 57 0 Rd.top (ae Tryd.prog 31) [1,0,1,1,0,1,0] (aq Tryd.prog R 57 0 Rd.top (ae Tryd.prog 31) Q [Kont.blk 0,Kont.seq [1,0,1,1,1]]) (St.mk [(1,ref 0 0),(4,ref 1 0),(15,int i64 p.atoms),(16,int i64 0)] [u2,cells false 1 fun (a:Nat)=>fz Fz.nil 0 0 fun _ _=>any] g))) (cells false 2 (nth [int i64 p.atoms,ad p.rules]))) (if aJ p=true then 0 else 2)) (fun _=>by kernel_rfl) ⟨by omega,(fun _ _=>⟨rfl,(eJ _ _ _ _ (by omega))⟩),fun hcc=>(nomatch (hc.symm.trans hcc)),fun _=>⟨by omega,?_⟩⟩
 refine ca (ej (fun _=>.any) 1) ?_
 refine ca (bc (s':=⟨[(1,.ref 0 0),(4,.ref 1 0),(15,.int .i64 p.atoms),(16,.int .i64 0)],[.cells false 2 (nth [.int .i64 p.atoms,ad p.rules]),.cells false 1 (fun _=>.ow true 2 0 1),.cells false (0*1) (onC p)],g⟩) ?_ ?_ rfl) ?_
 ·exact⟨Le.refl _,Le.refl _,Le.refl _,Le.refl _,trivial⟩
 ·exact⟨LeO.refl _,⟨rfl,Nat.le_refl _,fun _ _=>Le.nil_ow⟩,⟨rfl,Nat.le_refl _,fun j hj=>absurd hj (by omega)⟩,trivial⟩
 refine(bj (by kernel_rfl) (fun (a:Nat)=>⟨[(1,ref 0 0),(4,ref 1 0),(15,int i64 p.atoms),(16,.int .i64 a)],[.cells false 2 (nth [.int .i64 p.atoms,ad p.rules]),.cells false 1 (fun _=>.ow true 2 a 1),.cells false (a*1) (onC p)],g⟩) (fun (a:Nat)=>(a<=p.atoms.toNat)) (fun (a:Nat)=>(p.atoms.toNat-a)) 0 (bf ⟨Le.refl _,Le.refl _,Le.refl _,(Le.of_eq (by kernel_rfl)),trivial⟩ rfl rfl) ?_ (fun a hi=>?_))
 ·exact Nat.zero_le _
 ·refine vcQ [] (lkL [(5,[1,4,15,16,17]),(6,[1,4,5,15,16]),(7,[1,4,15,16]),(8,[1,4,15,16])]) (lkL [(7,[(3,ROrc.pcall (int u64 (↑(hgP p ((a:Int).toNat)):Int))),(5,ROrc.val (Orc.obj (onC p))),(6,ROrc.val (Orc.obj (nth [ow true 4 (a+1) 1])))])]) (fun Q=>(fun (u1:Int)=>(fun (u2:AV)=>(fun (u3:AObj)=>(decide (u1<p.atoms)=true->Tables.follows Tryd.prog.toTables Departure.mixedOrders=true/\1<=1/\2<=2/\(∀(hp:List AObj) (g:R.σ),true=true/\Does Tryd.prog R 70 [au p,int i64 u1] hp g (ret u2) hp g)/\0<1/\(a+1)*8<=aH/\a+1<=aH/\1<=1/\a*1<=a*1/\(∀(c:Nat),c<(a+1)*1->int u64 (↑(hgP p c):Int)=bb 1 a (fun (i j:Nat)=>int u64 (↑(hgP p (i*1+j)):Int)) (fun (i j:Nat)=>ak (fun (j:Nat)=>int u64 0) 0 1 (fun (x:Nat)=>u2) (0+i*1+j)) c)/\1<=1/\(∀(c:Nat),c<1->nth [ow true 4 (a+1) 1] c=ak (fun (x:Nat)=>ow true 2 a 1) 0 1 (fun (x:Nat)=>ow true 4 (a+1) 1) c)/\(-9223372036854775808<=u1+1/\u1+1<=9223372036854775807)/\Q AEx.normal (St.mk [(1,ref 0 0),(4,ref 1 0),(15,int i64 p.atoms),(16,int i64 (u1+1))] [u3,cells false 1 (nth [ow true 4 (a+1) 1]),dead,cells false 1 (ak (fun (j:Nat)=>int u64 0) 0 1 fun (x:Nat)=>u2),cells false ((a+1)*1) fun (a:Nat)=>int u64 (↑(hgP p a):Int)] g))/\(decide (u1<p.atoms)=false->Q (AEx.exit 0) (St.mk [(1,ref 0 0),(4,ref 1 0),(15,int i64 p.atoms),(16,int i64 u1),(17,AV.bool (decide (u1<p.atoms)))] [u3,cells false 1 fun (x:Nat)=>ow true 2 a 1,cells false (a*1) fun (a:Nat)=>int u64 (↑(hgP p a):Int)] g))) (cells false 2 (nth [int i64 p.atoms,ad p.rules]))) (int u64 (↑(hgP p a):Int))) ((a:Int))) (fun _=>by kernel_rfl) ⟨fun c1=>have c1:(a:Int)<p.atoms:=(of_decide_eq_true c1);⟨by kernel_rfl,by omega,by omega,(fun _ _=>⟨rfl,(nu _ _ _ (by omega) (by omega) (by simp at * <;> omega) _ _)⟩),by omega,by omega,by omega,by omega,by omega,?_,by omega,(fun c hc=>match c,hc with|0,_=>(by kernel_rfl) ),by omega,?_⟩,fun c1=>have c1:¬(a:Int)<p.atoms:=(of_decide_eq_false c1);?_⟩
  ·exact fun c hc=>(rM (f:=onC p) (z:=fun _=>.int .u64 0) hc).trans (by kernel_rfl)
  ·refine(aU (a+1) (bi [0,1,4] 5 rfl rfl rfl rfl rfl ⟨Le.refl _,Le.refl _,Le.refl _,Le.refl _,trivial⟩ ⟨⟨rfl,Nat.le_refl _,fun j hj=>match j,hj with|0,_=>(Le.refl _)|1,_=>(Le.refl _) ⟩,⟨rfl,Nat.le_refl _,fun j hj=>match j,hj with|0,_=>(Le.refl _) ⟩,?_,trivial⟩) ?_ ?_)
   ·exact⟨rfl,Nat.le_refl _,fun j _=>Le.of_eq rfl⟩
   ·omega
   ·omega
  ·have ha:a=p.atoms.toNat:=by omega
   subst ha
   have hA:=fun (R:Res) (hp:List AObj) (g:R.σ)=>vA R p.atoms.toNat (by omega) hp g
   rw[show((p.atoms.toNat:Nat):Int)=p.atoms by omega] at hA
   obtain⟨left0,hleft0⟩:∃l,2^p.atoms.toNat-1=l:=⟨_,rfl⟩
   simp only[hleft0] at hA
   obtain⟨n,hn⟩:∃n,p.atoms.toNat=n:=⟨_,rfl⟩
   rw[hn]
   refine⟨_,To.refl _,vcQ [] (lkL [(9,[1,4,6]),(10,[1,4,6,7]),(11,[4,6,7,8])]) (lkL [(9,[(2,ROrc.val (Orc.obj (nth [fn 82 0 (nth []) 1 (nth [ref 1 0])])))]),(11,[(2,ROrc.pcall (int u64 (left0:Int))),(4,ROrc.val (Orc.obj (nth [int u64 (left0:Int)])))])]) (fun Q=>(fun (u1:AV)=>(fun (u2:AV)=>1<=1/\(∀(c:Nat),c<1->nth [u2] c=ak (fun (a:Nat)=>AV.nilf) 0 1 (fun (x:Nat)=>u2) c)/\1<=2/\(∀(hp:List AObj) (g:R.σ),true=true/\Does Tryd.prog R 83 [int i64 p.atoms] hp g (ret u1) hp g)/\1<=1/\(∀(c:Nat),c<1->nth [u1] c=ak (fun (a:Nat)=>int u64 0) 0 1 (fun (x:Nat)=>u1) c)/\Wp Tryd.prog R 57 0 Rd.top (ae Tryd.prog 31) [1,0,1,1,1,1,1,1,1,0,0] (aq Tryd.prog R 57 0 Rd.top (ae Tryd.prog 31) Q [Kont.blk 2,Kont.seq [1,0,1,1,1,1,1,1,1,1]]) (St.mk [(4,ref 1 0),(6,ref 3 0),(7,ref 4 0),(8,ref 5 0)] [cells false 2 (nth [int i64 p.atoms,ad p.rules]),cells false 1 fun (x:Nat)=>ow true 2 n 1,cells false (n*1) fun (a:Nat)=>int u64 (↑(hgP p a):Int),cells false 1 (nth [u2]),cells false 1 fun (a:Nat)=>fz Fz.nil 0 0 fun _ _=>any,cells false 1 (nth [u1])] g)) (fn 82 0 (nth []) 1 (nth [ref 1 0]))) (int u64 (left0:Int))) (fun _=>by kernel_rfl) ⟨by omega,(fun c hc=>match c,hc with|0,_=>(by kernel_rfl) ),by omega,(fun _ _=>⟨rfl,(hA _ _ _)⟩),by omega,(fun c hc=>match c,hc with|0,_=>(by kernel_rfl) ),?_⟩⟩
   refine ca (ej (fun _=>.any) 1) ?_
   refine ca (bc (s':=⟨[(4,.ref 1 0),(6,.ref 3 0),(7,.ref 4 0),(8,.ref 5 0)],[.cells false 2 (nth [.int .i64 p.atoms,ad p.rules]),.cells false 1 (fun _=>.ow true 2 n 1),.cells false (n*1) (onC p),.cells false 1 (fun _=>.fn 82 0 (nth []) 1 (nth [.ref 1 0])),.cells false 1 (fun _=>.ow true 6 0 1),.cells false 1 (fun _=>.int .u64 left0),.cells false (0*1) (aI [])],g⟩) ?_ ?_ rfl) ?_
   ·exact⟨Le.refl _,Le.refl _,Le.refl _,Le.refl _,trivial⟩
   ·exact⟨LeO.refl _,LeO.refl _,LeO.refl _,⟨rfl,Nat.le_refl _,fun j hj=>match j,hj with|0,_=>Le.refl _⟩,⟨rfl,Nat.le_refl _,fun _ _=>Le.nil_ow⟩,⟨rfl,Nat.le_refl _,fun j hj=>match j,hj with|0,_=>Le.refl _⟩,⟨rfl,Nat.le_refl _,fun j hj=>absurd hj (by omega)⟩,trivial⟩
   refine(bj (by kernel_rfl) (fun (x:Nat × List Nat × Nat)=>⟨[(4,ref 1 0),(6,ref 3 0),(7,ref 4 0),(8,ref 5 0)],[.cells false 2 (nth [.int .i64 p.atoms,ad p.rules]),.cells false 1 (fun _=>.ow true 2 n 1),.cells false (n*1) (onC p),.cells false 1 (fun _=>.fn 82 0 (nth []) 1 (nth [.ref 1 0])),.cells false 1 (fun _=>.ow true 6 x.1 1),.cells false 1 (fun _=>.int .u64 x.2.2),.cells false (x.1*1) (aI x.2.1)],g⟩) (fun (x:Nat × List Nat × Nat)=>(OrdOk p x)) (fun (x:Nat × List Nat × Nat)=>((aj x.2.2).length)) (0,[],left0) (bf ⟨Le.refl _,Le.refl _,Le.refl _,Le.refl _,trivial⟩ rfl rfl) ?_ (fun x hi=>?_))
   ·rw[<-hleft0]
    exact rO hp'
   ·obtain⟨m,L,left⟩:=x
    have hok:=hi
    obtain⟨o1,o2,o3,o4,o5⟩:=hi
    simp only at o1 o2 o3 o4 o5
    have hat:0<n:=by omega
    refine vcQ [] (lkL [(12,[4,6,7,8,31]),(13,[4,6,7,8,33])]) (lkL [(13,[(1,ROrc.call (fn 105 0 (nth []) 1 (nth [ref (List.length [cells false 2 (nth [int i64 p.atoms,ad p.rules]),cells false 1 fun (x:Nat)=>ow true 2 n 1,cells false (n*1) fun (a:Nat)=>int u64 (↑(hgP p a):Int),cells false 1 fun (x:Nat)=>fn 82 0 (nth []) 1 (nth [ref 1 0]),cells false 1 fun (x:Nat)=>ow true 6 m 1,cells false 1 fun (x:Nat)=>int u64 (left:Int),cells false (m*1) fun (a:Nat)=>fz Fz.auto 1 ((ah (L.getD a 0)).l.length) fun (i x:Nat)=>ag (ah (L.getD a 0)).l i]) 0])) ([cells false 2 (nth [int i64 p.atoms,ad p.rules]),cells false 1 fun (x:Nat)=>ow true 2 n 1,cells false (n*1) fun (a:Nat)=>int u64 (↑(hgP p a):Int),cells false 1 fun (x:Nat)=>fn 82 0 (nth []) 1 (nth [ref 1 0]),cells false 1 fun (x:Nat)=>ow true 6 m 1,cells false 1 fun (x:Nat)=>int u64 (left:Int),cells false (m*1) fun (a:Nat)=>fz Fz.auto 1 ((ah (L.getD a 0)).l.length) fun (i x:Nat)=>ag (ah (L.getD a 0)).l i]++[cells false 1 fun (x:Nat)=>int u64 (left:Int)]) g)])]) (fun Q=>(fun (u1:List AObj)=>(fun (u2:List AObj)=>1<=1/\(((left:Int) != 0)=true->1<=1/\(true=true/\Does Tryd.prog R 77 [int u64 (left:Int)] u2 g (ret (fn 105 0 (nth []) 1 (nth [ref 7 0]))) u1 g)/\Wp Tryd.prog R 57 0 Rd.top (ae Tryd.prog 31) [1,0,1,1,1,1,1,1,1,0,0,0,1,0,1,0] (aq Tryd.prog R 57 0 Rd.top (ae Tryd.prog 31) Q [Kont.blk 4,Kont.blk 3]) (St.mk [(4,ref 1 0),(6,ref 3 0),(7,ref 4 0),(8,ref 5 0),(33,fn 105 0 (nth []) 1 (nth [ref 7 0]))] u1 g))/\(((left:Int) != 0)=false->Q (AEx.exit 2) (St.mk [(4,ref 1 0),(6,ref 3 0),(7,ref 4 0),(8,ref 5 0),(31,AV.bool ((left:Int) != 0))] u2 g))) ([cells false 2 (nth [int i64 p.atoms,ad p.rules]),cells false 1 fun (x:Nat)=>ow true 2 n 1,cells false (n*1) fun (a:Nat)=>int u64 (↑(hgP p a):Int),cells false 1 fun (x:Nat)=>fn 82 0 (nth []) 1 (nth [ref 1 0]),cells false 1 fun (x:Nat)=>ow true 6 m 1,cells false 1 fun (x:Nat)=>int u64 (left:Int),cells false (m*1) fun (a:Nat)=>fz Fz.auto 1 ((ah (L.getD a 0)).l.length) fun (i x:Nat)=>ag (ah (L.getD a 0)).l i])) ([cells false 2 (nth [int i64 p.atoms,ad p.rules]),cells false 1 fun (x:Nat)=>ow true 2 n 1,cells false (n*1) fun (a:Nat)=>int u64 (↑(hgP p a):Int),cells false 1 fun (x:Nat)=>fn 82 0 (nth []) 1 (nth [ref 1 0]),cells false 1 fun (x:Nat)=>ow true 6 m 1,cells false 1 fun (x:Nat)=>int u64 (left:Int),cells false (m*1) fun (a:Nat)=>fz Fz.auto 1 ((ah (L.getD a 0)).l.length) fun (i x:Nat)=>ag (ah (L.getD a 0)).l i,cells false 1 fun (x:Nat)=>int u64 (left:Int)])) (fun _=>by kernel_rfl) ⟨by omega,fun c1=>have c1:¬(left:Int)=0:=(bne_iff_ne.mp c1);⟨by omega,⟨rfl,(cX _ _ _ _)⟩,?_⟩,fun c1=>have c1:(left:Int)=0:=(bne_eq_false_iff_eq.mp c1);?_⟩
    ·have hne:left≠0:=by omega
     have hnx:=rN hr hok hne
     obtain⟨k1,k2,k3,k4⟩:=im hr o3 hne
     obtain⟨K,hK⟩:∃K,eL p left=K:=⟨_,rfl⟩
     obtain⟨A,hA'⟩:∃A,bz p left=A:=⟨_,rfl⟩
     rw[hK] at k1 k3
     rw[hA'] at k2 k4 hnx
     have hAK:(aj left).getD K 0=A:=by rw[<-hA',<-hK];rfl
     rcases Nat.eq_zero_or_pos m with hm0|hm0
     ·subst hm0
      have hL:L=[]:=List.length_eq_zero_iff.1 o1.symm
      subst hL
      refine ca (bi (s':=⟨[(4,.ref 1 0),(6,.ref 3 0),(7,.ref 4 0),(8,.ref 5 0),(33,.fn 105 0 (nth []) 1 (nth [.ref 6 0]))],[.cells false 2 (nth [.int .i64 p.atoms,ad p.rules]),.cells false 1 (fun _=>.ow true 2 n 1),.cells false (n*1) (onC p),.cells false 1 (fun _=>.fn 82 0 (nth []) 1 (nth [.ref 1 0])),.cells false 1 (fun _=>.fz .nil 0 0 (fun _ _=>.any)),.cells false 1 (fun _=>.int .u64 left),.cells false 1 (fun _=>.int .u64 left)],g⟩) [0,1,2,3,4,5,7] 8 rfl rfl rfl rfl rfl ⟨Le.refl _,Le.refl _,Le.refl _,Le.refl _,Le.fn (fun i hi=>absurd hi (Nat.not_lt_zero i)) (fun i hi=>match i,hi with|0,_=>Le.refl _),trivial⟩ ⟨⟨rfl,Nat.le_refl _,fun j hj=>match j,hj with|0,_=>Le.refl _|1,_=>az (by exact trivial)⟩,LeO.refl _,LeO.refl _,⟨rfl,Nat.le_refl _,fun j hj=>Le.fn (fun i hi=>absurd hi (Nat.not_lt_zero i)) (fun i hi=>match i,hi with|0,_=>Le.refl _)⟩,⟨rfl,Nat.le_refl _,fun j hj=>Le.ow_nil⟩,LeO.refl _,LeO.refl _,trivial⟩) ?_
      refine rL 33 [34] 6 (by kernel_rfl) rfl rfl left K o3 [.cells false 2 (nth [.int .i64 p.atoms,ad p.rules]),.cells false 1 (fun _=>.ow true 2 n 1),.cells false (n*1) (onC p),.cells false 1 (fun _=>.fn 82 0 (nth []) 1 (nth [.ref 1 0])),.cells false 1 (fun _=>.fz .nil 0 0 (fun _ _=>.any)),.cells false 1 (fun _=>.int .u64 left)] (hP rfl rfl) rfl (by exact⟨by omega,by omega,by omega,by omega,by omega,by omega,by omega,trivial⟩) (by exact⟨fun j hj=>(match j,hj with|0,_=>trivial|1,_=>trivial),fun _ _=>show 2<6 by omega,fun _ _=>trivial,fun _ _=>⟨trivial,trivial,show 1<6 by omega⟩,fun _ _=>trivial,fun _ _=>trivial,trivial⟩) rfl (by kernel_rfl) [4,6,7,8] (by exact⟨show 1<6 by omega,show 3<6 by omega,show 4<6 by omega,show 5<6 by omega,trivial⟩) (fun k l' hk hkN=>?_) (fun hKN l'=>?_) (fun h=>?_)
      ·obtain⟨a,ha⟩:∃a,(aj left).getD k 0=a:=⟨_,rfl⟩
       have ham:a∈aj left:=by rw[<-ha];exact cg _ 0 hkN
       have han:a<n:=by rw[<-hn];exact o4 a ham
       have h3:=k3 k hk
       rw[ha] at h3 ⊢
       have hO:=fun (R:Res) [Tab LT R] (g:R.σ)=>kO R p n a hr (by omega) (by omega) (fun b hb=>by have:=kZ hr hx (a:=a) (by omega) (by omega) hb;omega) g
       have hcd:=(kY (p:=p) (a:=a) (fS hr (by omega)) o3).trans h3
       refine vcQ [] (lkL [(14,[4,6,7,8,9])]) (fun _=>[]) (fun Q=>Q AEx.normal (St.mk [(4,ref 1 0),(6,ref 3 0),(7,ref 4 0),(8,ref 5 0),(9,int i64 (a:Int))] [cells false 2 (nth [int i64 p.atoms,ad p.rules]),cells false 1 fun (x:Nat)=>ow true 2 n 1,cells false (n*1) fun (a:Nat)=>int u64 (↑(hgP p a):Int),cells false 1 fun (x:Nat)=>fn 82 0 (nth []) 1 (nth [ref 1 0]),cells false 1 fun (x:Nat)=>fz Fz.nil 0 0 fun _ _=>any,cells false 1 fun (x:Nat)=>int u64 (left:Int)] g)) (fun _=>by kernel_rfl) (?_)
       show Wp _ _ _ 6 _ _ _ _ _
       refine vcQ [] (lkL [(15,[4,6,7,8,9,10]),(16,[4,6,7,8,10,46]),(17,[4,6,7,8,10]),(18,[4,6,7,8])]) (lkL [(15,[(2,ROrc.kcall (int u64 (↑(av p a):Int)))]),(17,[(2,ROrc.callN (fn 105 0 (nth []) 1 (nth [ref (List.length [cells false 2 (nth [int i64 p.atoms,ad p.rules]),cells false 1 fun (x:Nat)=>ow true 2 n 1,cells false (n*1) fun (a:Nat)=>int u64 (↑(hgP p a):Int),cells false 1 fun (x:Nat)=>fn 82 0 (nth []) 1 (nth [ref 1 0]),cells false 1 fun (x:Nat)=>fz Fz.nil 0 0 fun _ _=>any,cells false 1 fun (x:Nat)=>int u64 (left:Int)]) 0])) [] [cells false 1 fun (x:Nat)=>int u64 (↑(av p a):Int)] g),(3,ROrc.callN (ow true 7 ((aj (av p a)).length) 1) [(6,cells false 1 fun (j:Nat)=>any)] [cells false ((aj (av p a)).length*1) fun (j:Nat)=>int i64 (↑((aj (av p a)).getD j 0):Int)] g),(6,ROrc.val (Orc.obj (nth [ow true 9 1 1])))]),(18,[(3,ROrc.val (Orc.obj (nth [int u64 (IntKind.wrap u64 (↑(BitVec.toNat (BitVec.ofInt 64 (left:Int) &&& ~~~BitVec.ofInt 64 (↑(av p a):Int))):Int))])))])]) (fun Q=>(fun (u1:List AObj)=>(fun (u2:Bool)=>(fun (u3:List AObj)=>(fun (u4:AV)=>(fun (u5:AObj)=>(fun (u6:AV)=>(fun (u7:AV)=>(fun (u8:AObj)=>(fun (u9:AObj)=>(fun (u10:AV)=>(fun (u11:AObj)=>(fun (u12:Bool)=>1<=1/\(true=true/\Does Tryd.prog R 82 [int i64 (a:Int),ref 1 0] u1 g (ret u10) u1 g)/\u12=true/\1<=1/\(0<=(a:Int)/\(a:Int)<(n:Int))/\a+1<=n*1/\1<=1/\(u2=true->u12=true/\1<=1/\(true=true/\Does Tryd.prog R 77 [u10] u1 g (ret (fn 105 0 (nth []) 1 (nth [ref 6 0]))) u3 g)/\(true=true/\Does Tryd.prog R 75 [fn 105 0 (nth []) 1 (nth [ref 6 0])] u3 g (ret u7) [u11,cells false 1 fun (x:Nat)=>ow true 2 n 1,u9,u8,cells false 1 fun (x:Nat)=>u6,cells false 1 fun (x:Nat)=>int u64 (left:Int),cells false 1 fun (j:Nat)=>any,u5] g)/\0<1/\24<=aH/\1<=aH/\1<=1/\1<=1/\(∀(c:Nat),c<1->nth [ow true 9 1 1] c=ak (fun (x:Nat)=>u6) 0 1 (fun (x:Nat)=>ow true 9 1 1) c)/\1<=1/\1<=1/\(∀(c:Nat),c<1->nth [u4] c=ak (fun (x:Nat)=>int u64 (left:Int)) 0 1 (fun (x:Nat)=>u4) c)/\Q (AEx.exit 3) (St.mk [(4,ref 1 0),(6,ref 3 0),(7,ref 4 0),(8,ref 5 0)] [u11,cells false 1 fun (x:Nat)=>ow true 2 n 1,u9,u8,cells false 1 (nth [ow true 9 1 1]),cells false 1 (nth [u4]),cells false 1 fun (j:Nat)=>any,u5,cells false 1 (ak (fun (j:Nat)=>u6) 0 1 fun (x:Nat)=>u7),cells false 1 (bb 1 0 (fun _ _=>any) fun (i j:Nat)=>ak (fun (j:Nat)=>u6) 0 1 (fun (x:Nat)=>u7) (0+i*1+j))] g))/\(u2=false->Q AEx.normal (St.mk [(4,ref 1 0),(6,ref 3 0),(7,ref 4 0),(8,ref 5 0),(10,u10),(46,AV.bool u2)] u1 g))) (Tables.follows Tryd.prog.toTables Departure.mixedOrders)) (cells false 2 (nth [int i64 p.atoms,ad p.rules]))) (int u64 (↑(av p a):Int))) (cells false (n*1) fun (a:Nat)=>int u64 (↑(hgP p a):Int))) (cells false 1 fun (x:Nat)=>fn 82 0 (nth []) 1 (nth [ref 1 0]))) (ow true 7 ((aj (av p a)).length) 1)) (fz Fz.nil 0 0 fun _ _=>any)) (cells false ((aj (av p a)).length*1) fun (j:Nat)=>int i64 (↑((aj (av p a)).getD j 0):Int))) (int u64 (IntKind.wrap u64 (↑(BitVec.toNat (BitVec.ofInt 64 (left:Int) &&& ~~~BitVec.ofInt 64 (↑(av p a):Int))):Int)))) ([cells false 2 (nth [int i64 p.atoms,ad p.rules]),cells false 1 fun (x:Nat)=>ow true 2 n 1,cells false (n*1) fun (a:Nat)=>int u64 (↑(hgP p a):Int),cells false 1 fun (x:Nat)=>fn 82 0 (nth []) 1 (nth [ref 1 0]),cells false 1 fun (x:Nat)=>fz Fz.nil 0 0 fun _ _=>any,cells false 1 fun (x:Nat)=>int u64 (left:Int),cells false 1 fun (x:Nat)=>int u64 (↑(av p a):Int)])) (IntKind.wrap u64 (↑(BitVec.toNat (BitVec.ofInt 64 (IntKind.wrap u64 (↑(BitVec.toNat (BitVec.ofInt 64 (↑(hgP p a):Int)&&&BitVec.ofInt 64 (left:Int))):Int)) &&& ~~~BitVec.ofInt 64 (↑(av p a):Int))):Int)==0)) ([cells false 2 (nth [int i64 p.atoms,ad p.rules]),cells false 1 fun (x:Nat)=>ow true 2 n 1,cells false (n*1) fun (a:Nat)=>int u64 (↑(hgP p a):Int),cells false 1 fun (x:Nat)=>fn 82 0 (nth []) 1 (nth [ref 1 0]),cells false 1 fun (x:Nat)=>fz Fz.nil 0 0 fun _ _=>any,cells false 1 fun (x:Nat)=>int u64 (left:Int)])) (fun _=>by kernel_rfl) ⟨by omega,⟨rfl,(a9 (T:=LT) inferInstance [1,2] 6 (fun R _ g=>hO R g) rfl rfl rfl (by exact⟨⟨rfl,Nat.le_refl _,fun j hj=>match j,hj with|0,_=>(Le.refl _) ⟩,⟨rfl,Nat.le_refl _,fun j hj=>(by first|exact az (by first|exact trivial|apply fT)|exact Le.of_eq (fU rfl).symm)⟩,trivial⟩) (by exact⟨by omega,by omega,trivial⟩) (by exact⟨az (by exact trivial),Le.refl _,trivial⟩) (by exact aC (by exact trivial)) (by exact⟨LeO.rflc,⟨rfl,Nat.le_refl _,fun j hj=>match j,hj with|0,_=>(Le.refl _) ⟩,⟨rfl,Nat.le_refl _,fun j hj=>(by first|exact aC (by first|exact trivial|apply fT)|exact Le.of_eq (fU rfl))⟩,LeO.rflc,LeO.rflc,LeO.rflc,trivial⟩))⟩,by kernel_rfl,by omega,by omega,by omega,by omega,fun c1=>have c1:IntKind.wrap u64 (↑(BitVec.toNat (BitVec.ofInt 64 (IntKind.wrap u64 (↑(BitVec.toNat (BitVec.ofInt 64 (↑(hgP p a):Int)&&&BitVec.ofInt 64 (left:Int))):Int)) &&& ~~~BitVec.ofInt 64 (↑(av p a):Int))):Int)=0:=(beq_iff_eq.mp c1);⟨by kernel_rfl,by omega,⟨rfl,(cX _ _ _ _)⟩,⟨rfl,(a9 (T:=LT) inferInstance [6] 7 (fun R _ g=>kK R (av p a) (by simp at * <;> omega) g) rfl rfl rfl (by exact⟨⟨rfl,Nat.le_refl _,fun j hj=>match j,hj with|0,_=>(Le.refl _) ⟩,trivial⟩) (by exact⟨by omega,trivial⟩) (by exact⟨(Le.fn (fun i hi=>absurd hi (by omega)) (fun i hi=>match i,hi with|0,_=>(Le.refl _) )),trivial⟩) (by exact(Le.refl _)) (by exact⟨LeO.rflc,LeO.rflc,LeO.rflc,LeO.rflc,LeO.rflc,LeO.rflc,LeO.rflc,LeO.rflc,trivial⟩))⟩,by omega,by omega,by omega,by omega,by omega,(fun c hc=>match c,hc with|0,_=>(by kernel_rfl) ),by omega,by omega,(fun c hc=>match c,hc with|0,_=>(by kernel_rfl) ),?_⟩,fun c1=>have c1:¬IntKind.wrap u64 (↑(BitVec.toNat (BitVec.ofInt 64 (IntKind.wrap u64 (↑(BitVec.toNat (BitVec.ofInt 64 (↑(hgP p a):Int)&&&BitVec.ofInt 64 (left:Int))):Int)) &&& ~~~BitVec.ofInt 64 (↑(av p a):Int))):Int)=0:=(beq_eq_false_iff_ne.mp c1);?_⟩
       ·exfalso
        rename_i c0
        exact absurd (hcd.symm.trans c0) (by decide)
       ·refine(fF rfl (bf trivial rfl rfl))
      ·rw[hAK]
       have han:A<n:=by rw[<-hn];exact o4 A k4
       have hO:=fun (R:Res) [Tab LT R] (g:R.σ)=>kO R p n A hr (by omega) (by omega) (fun b hb=>by have:=kZ hr hx (a:=A) (by omega) (by omega) hb;omega) g
       have hcd:=(kY (p:=p) (a:=A) (fS hr (by omega)) o3).trans k2
       have hw24:=qU p A
       have hC:=fun (R:Res) [Tab LT R] (s:Nat) (hs:s<2^24) (g:R.σ)=>il R s hs g
       refine vcQ [] (lkL [(14,[4,6,7,8,9])]) (fun _=>[]) (fun Q=>Q AEx.normal (St.mk [(4,ref 1 0),(6,ref 3 0),(7,ref 4 0),(8,ref 5 0),(9,int i64 (A:Int))] [cells false 2 (nth [int i64 p.atoms,ad p.rules]),cells false 1 fun (x:Nat)=>ow true 2 n 1,cells false (n*1) fun (a:Nat)=>int u64 (↑(hgP p a):Int),cells false 1 fun (x:Nat)=>fn 82 0 (nth []) 1 (nth [ref 1 0]),cells false 1 fun (x:Nat)=>fz Fz.nil 0 0 fun _ _=>any,cells false 1 fun (x:Nat)=>int u64 (left:Int),dead] g)) (fun _=>by kernel_rfl) (?_)
       show Wp _ _ _ 7 _ _ _ _ _
       refine vcQ [] (lkL [(15,[4,6,7,8,9,10]),(16,[4,6,7,8,10,46]),(17,[4,6,7,8,10]),(18,[4,6,7,8])]) (lkL [(15,[(2,ROrc.kcall (int u64 (↑(av p A):Int)))]),(17,[(2,ROrc.callN (fn 105 0 (nth []) 1 (nth [ref (List.length [cells false 2 (nth [int i64 p.atoms,ad p.rules]),cells false 1 fun (x:Nat)=>ow true 2 n 1,cells false (n*1) fun (a:Nat)=>int u64 (↑(hgP p a):Int),cells false 1 fun (x:Nat)=>fn 82 0 (nth []) 1 (nth [ref 1 0]),cells false 1 fun (x:Nat)=>fz Fz.nil 0 0 fun _ _=>any,cells false 1 fun (x:Nat)=>int u64 (left:Int),dead]) 0])) [] [cells false 1 fun (x:Nat)=>int u64 (↑(av p A):Int)] g),(3,ROrc.callS (fz Fz.auto 1 ((ah (av p A)).l.length) fun (i x:Nat)=>ag (ah (av p A)).l i) [(7,cells false 1 fun (j:Nat)=>any)] g),(5,ROrc.val (Orc.obj (aI ([]++[av p A])))),(6,ROrc.val (Orc.obj (nth [ow true 9 1 1])))]),(18,[(3,ROrc.val (Orc.obj (nth [int u64 (IntKind.wrap u64 (↑(BitVec.toNat (BitVec.ofInt 64 (left:Int) &&& ~~~BitVec.ofInt 64 (↑(av p A):Int))):Int))])))])]) (fun Q=>(fun (u1:List AObj)=>(fun (u2:Bool)=>(fun (u3:List AObj)=>(fun (u4:AV)=>(fun (u5:AV)=>(fun (u6:AV)=>(fun (u7:AObj)=>(fun (u8:AObj)=>(fun (u9:AV)=>(fun (u10:AObj)=>(fun (u11:Bool)=>1<=1/\(true=true/\Does Tryd.prog R 82 [int i64 (A:Int),ref 1 0] u1 g (ret u9) u1 g)/\u11=true/\1<=1/\(0<=(A:Int)/\(A:Int)<(n:Int))/\A+1<=n*1/\1<=1/\(u2=true->u11=true/\1<=1/\(true=true/\Does Tryd.prog R 77 [u9] u1 g (ret (fn 105 0 (nth []) 1 (nth [ref 7 0]))) u3 g)/\(true=true/\Does Tryd.prog R 75 [fn 105 0 (nth []) 1 (nth [ref 7 0])] u3 g (ret u5) [u10,cells false 1 fun (x:Nat)=>ow true 2 n 1,u8,u7,cells false 1 fun (x:Nat)=>u6,cells false 1 fun (x:Nat)=>int u64 (left:Int),dead,cells false 1 fun (j:Nat)=>any] g)/\0<1/\24<=aH/\1<=aH/\1<=1/\(∀(c:Nat),c<1->(fz Fz.auto 1 ((ah (([]++[av p A]).getD c 0)).l.length) fun (i x:Nat)=>ag (ah (([]++[av p A]).getD c 0)).l i)=bb 1 0 (fun _ _=>any) (fun (i j:Nat)=>ak (fun (j:Nat)=>u6) 0 1 (fun (x:Nat)=>u5) (0+i*1+j)) c)/\1<=1/\(∀(c:Nat),c<1->nth [ow true 9 1 1] c=ak (fun (x:Nat)=>u6) 0 1 (fun (x:Nat)=>ow true 9 1 1) c)/\1<=1/\1<=1/\(∀(c:Nat),c<1->nth [u4] c=ak (fun (x:Nat)=>int u64 (left:Int)) 0 1 (fun (x:Nat)=>u4) c)/\Q (AEx.exit 3) (St.mk [(4,ref 1 0),(6,ref 3 0),(7,ref 4 0),(8,ref 5 0)] [u10,cells false 1 fun (x:Nat)=>ow true 2 n 1,u8,u7,cells false 1 (nth [ow true 9 1 1]),cells false 1 (nth [u4]),dead,cells false 1 fun (j:Nat)=>any,cells false 1 (ak (fun (j:Nat)=>u6) 0 1 fun (x:Nat)=>u5),cells false 1 fun (a:Nat)=>fz Fz.auto 1 ((ah (([]++[av p A]).getD a 0)).l.length) fun (i x:Nat)=>ag (ah (([]++[av p A]).getD a 0)).l i] g))/\(u2=false->Q AEx.normal (St.mk [(4,ref 1 0),(6,ref 3 0),(7,ref 4 0),(8,ref 5 0),(10,u9),(46,AV.bool u2)] u1 g))) (Tables.follows Tryd.prog.toTables Departure.mixedOrders)) (cells false 2 (nth [int i64 p.atoms,ad p.rules]))) (int u64 (↑(av p A):Int))) (cells false (n*1) fun (a:Nat)=>int u64 (↑(hgP p a):Int))) (cells false 1 fun (x:Nat)=>fn 82 0 (nth []) 1 (nth [ref 1 0]))) (fz Fz.nil 0 0 fun _ _=>any)) (fz Fz.auto 1 ((ah (av p A)).l.length) fun (i x:Nat)=>ag (ah (av p A)).l i)) (int u64 (IntKind.wrap u64 (↑(BitVec.toNat (BitVec.ofInt 64 (left:Int) &&& ~~~BitVec.ofInt 64 (↑(av p A):Int))):Int)))) ([cells false 2 (nth [int i64 p.atoms,ad p.rules]),cells false 1 fun (x:Nat)=>ow true 2 n 1,cells false (n*1) fun (a:Nat)=>int u64 (↑(hgP p a):Int),cells false 1 fun (x:Nat)=>fn 82 0 (nth []) 1 (nth [ref 1 0]),cells false 1 fun (x:Nat)=>fz Fz.nil 0 0 fun _ _=>any,cells false 1 fun (x:Nat)=>int u64 (left:Int),dead,cells false 1 fun (x:Nat)=>int u64 (↑(av p A):Int)])) (IntKind.wrap u64 (↑(BitVec.toNat (BitVec.ofInt 64 (IntKind.wrap u64 (↑(BitVec.toNat (BitVec.ofInt 64 (↑(hgP p A):Int)&&&BitVec.ofInt 64 (left:Int))):Int)) &&& ~~~BitVec.ofInt 64 (↑(av p A):Int))):Int)==0)) ([cells false 2 (nth [int i64 p.atoms,ad p.rules]),cells false 1 fun (x:Nat)=>ow true 2 n 1,cells false (n*1) fun (a:Nat)=>int u64 (↑(hgP p a):Int),cells false 1 fun (x:Nat)=>fn 82 0 (nth []) 1 (nth [ref 1 0]),cells false 1 fun (x:Nat)=>fz Fz.nil 0 0 fun _ _=>any,cells false 1 fun (x:Nat)=>int u64 (left:Int),dead])) (fun _=>by kernel_rfl) ⟨by omega,⟨rfl,(a9 (T:=LT) inferInstance [1,2] 7 (fun R _ g=>hO R g) rfl rfl rfl (by exact⟨⟨rfl,Nat.le_refl _,fun j hj=>match j,hj with|0,_=>(Le.refl _) ⟩,⟨rfl,Nat.le_refl _,fun j hj=>(by first|exact az (by first|exact trivial|apply fT)|exact Le.of_eq (fU rfl).symm)⟩,trivial⟩) (by exact⟨by omega,by omega,trivial⟩) (by exact⟨az (by exact trivial),Le.refl _,trivial⟩) (by exact aC (by exact trivial)) (by exact⟨LeO.rflc,⟨rfl,Nat.le_refl _,fun j hj=>match j,hj with|0,_=>(Le.refl _) ⟩,⟨rfl,Nat.le_refl _,fun j hj=>(by first|exact aC (by first|exact trivial|apply fT)|exact Le.of_eq (fU rfl))⟩,LeO.rflc,LeO.rflc,LeO.rflc,trivial,trivial⟩))⟩,by kernel_rfl,by omega,by omega,by omega,by omega,fun c1=>have c1:IntKind.wrap u64 (↑(BitVec.toNat (BitVec.ofInt 64 (IntKind.wrap u64 (↑(BitVec.toNat (BitVec.ofInt 64 (↑(hgP p A):Int)&&&BitVec.ofInt 64 (left:Int))):Int)) &&& ~~~BitVec.ofInt 64 (↑(av p A):Int))):Int)=0:=(beq_iff_eq.mp c1);⟨by kernel_rfl,by omega,⟨rfl,(cX _ _ _ _)⟩,⟨rfl,(a9 (T:=LT) inferInstance [7] 8 (fun R _ g=>hC R (av p A) (by omega) g) rfl rfl rfl (by exact⟨⟨rfl,Nat.le_refl _,fun j hj=>match j,hj with|0,_=>(Le.refl _) ⟩,trivial⟩) (by exact⟨by omega,trivial⟩) (by exact⟨(Le.fn (fun i hi=>absurd hi (by omega)) (fun i hi=>match i,hi with|0,_=>(Le.refl _) )),trivial⟩) (by exact aC (by exact trivial)) (by exact⟨LeO.rflc,LeO.rflc,LeO.rflc,LeO.rflc,LeO.rflc,LeO.rflc,trivial,LeO.rflc,trivial⟩))⟩,by omega,by omega,by omega,by omega,?_,by omega,(fun c hc=>match c,hc with|0,_=>(by kernel_rfl) ),by omega,by omega,(fun c hc=>match c,hc with|0,_=>(by kernel_rfl) ),?_⟩,fun c1=>have c1:¬IntKind.wrap u64 (↑(BitVec.toNat (BitVec.ofInt 64 (IntKind.wrap u64 (↑(BitVec.toNat (BitVec.ofInt 64 (↑(hgP p A):Int)&&&BitVec.ofInt 64 (left:Int))):Int)) &&& ~~~BitVec.ofInt 64 (↑(av p A):Int))):Int)=0:=(beq_eq_false_iff_ne.mp c1);?_⟩
       ·exact fun c hc=>(ju (L:=[]) (m:=0) (z:=fun _=>.fz .nil 0 0 (fun _ _=>.any)) (old:=fun _ _=>.any) (by assumption) (fun i hi=>absurd hi (Nat.not_lt_zero i)) hc).trans (by kernel_rfl)
       ·show Cl R 0 (fx _ _) AEx.normal _
        refine(aU (0+1,[]++[av p A],cj left (av p A)) (bi [0,1,2,3,4,5,9] 10 rfl rfl rfl rfl rfl ⟨Le.refl _,Le.refl _,Le.refl _,Le.refl _,trivial⟩ ⟨⟨rfl,Nat.le_refl _,fun j hj=>match j,hj with|0,_=>(Le.refl _)|1,_=>(Le.refl _) ⟩,⟨rfl,Nat.le_refl _,fun j hj=>match j,hj with|0,_=>(Le.refl _) ⟩,?_,⟨rfl,Nat.le_refl _,fun j hj=>match j,hj with|0,_=>(Le.fn (fun i hi=>absurd hi (by omega)) (fun i hi=>match i,hi with|0,_=>(Le.refl _) )) ⟩,⟨rfl,Nat.le_refl _,fun j hj=>match j,hj with|0,_=>(Le.refl _) ⟩,⟨rfl,Nat.le_refl _,fun j hj=>match j,hj with|0,_=>(Le.of_eq ?_) ⟩,⟨rfl,Nat.le_refl _,fun j hj=>match j,hj with|0,_=>(Le.refl _) ⟩,trivial⟩) ?_ ?_)
        ·exact⟨rfl,Nat.le_refl _,fun j _=>Le.of_eq rfl⟩
        ·show AV.int .u64 _=AV.int .u64 _
         rw[nA o3]
        ·exact hnx.1
        ·exact hnx.2
       ·exfalso
        rename_i c0
        exact absurd (hcd.symm.trans c0) (by decide)
      ·exact absurd k1 (by omega)
     ·refine rL 33 [34] 7 (by kernel_rfl) rfl rfl left K o3 [.cells false 2 (nth [.int .i64 p.atoms,ad p.rules]),.cells false 1 (fun _=>.ow true 2 n 1),.cells false (n*1) (onC p),.cells false 1 (fun _=>.fn 82 0 (nth []) 1 (nth [.ref 1 0])),.cells false 1 (fun _=>.ow true 6 m 1),.cells false 1 (fun _=>.int .u64 left),.cells false (m*1) (aI L)] (hP rfl rfl) rfl (by exact⟨by omega,by omega,by omega,by omega,by omega,by omega,by omega,by omega,trivial⟩) (by exact⟨fun j hj=>(match j,hj with|0,_=>trivial|1,_=>trivial),fun _ _=>show 2<7 by omega,fun _ _=>trivial,fun _ _=>⟨trivial,trivial,show 1<7 by omega⟩,fun _ _=>show 6<7 by omega,fun _ _=>trivial,fun _ _=>trivial,trivial⟩) rfl (by kernel_rfl) [4,6,7,8] (by exact⟨show 1<7 by omega,show 3<7 by omega,show 4<7 by omega,show 5<7 by omega,trivial⟩) (fun k l' hk hkN=>?_) (fun hKN l'=>?_) (fun h=>?_)
      ·obtain⟨a,ha⟩:∃a,(aj left).getD k 0=a:=⟨_,rfl⟩
       have ham:a∈aj left:=by rw[<-ha];exact cg _ 0 hkN
       have han:a<n:=by rw[<-hn];exact o4 a ham
       have h3:=k3 k hk
       rw[ha] at h3 ⊢
       have hO:=fun (R:Res) [Tab LT R] (g:R.σ)=>kO R p n a hr (by omega) (by omega) (fun b hb=>by have:=kZ hr hx (a:=a) (by omega) (by omega) hb;omega) g
       have hcd:=(kY (p:=p) (a:=a) (fS hr (by omega)) o3).trans h3
       refine vcQ [] (lkL [(14,[4,6,7,8,9])]) (fun _=>[]) (fun Q=>Q AEx.normal (St.mk [(4,ref 1 0),(6,ref 3 0),(7,ref 4 0),(8,ref 5 0),(9,int i64 (a:Int))] [cells false 2 (nth [int i64 p.atoms,ad p.rules]),cells false 1 fun (x:Nat)=>ow true 2 n 1,cells false (n*1) fun (a:Nat)=>int u64 (↑(hgP p a):Int),cells false 1 fun (x:Nat)=>fn 82 0 (nth []) 1 (nth [ref 1 0]),cells false 1 fun (x:Nat)=>ow true 6 m 1,cells false 1 fun (x:Nat)=>int u64 (left:Int),cells false (m*1) fun (a:Nat)=>fz Fz.auto 1 ((ah (L.getD a 0)).l.length) fun (i x:Nat)=>ag (ah (L.getD a 0)).l i] g)) (fun _=>by kernel_rfl) (?_)
       show Wp _ _ _ 7 _ _ _ _ _
       refine vcQ [] (lkL [(15,[4,6,7,8,9,10]),(16,[4,6,7,8,10,46]),(17,[4,6,7,8,10]),(18,[4,6,7,8])]) (lkL [(15,[(2,ROrc.kcall (int u64 (↑(av p a):Int)))]),(17,[(2,ROrc.callN (fn 105 0 (nth []) 1 (nth [ref (List.length [cells false 2 (nth [int i64 p.atoms,ad p.rules]),cells false 1 fun (x:Nat)=>ow true 2 n 1,cells false (n*1) fun (a:Nat)=>int u64 (↑(hgP p a):Int),cells false 1 fun (x:Nat)=>fn 82 0 (nth []) 1 (nth [ref 1 0]),cells false 1 fun (x:Nat)=>ow true 6 m 1,cells false 1 fun (x:Nat)=>int u64 (left:Int),cells false (m*1) fun (a:Nat)=>fz Fz.auto 1 ((ah (L.getD a 0)).l.length) fun (i x:Nat)=>ag (ah (L.getD a 0)).l i]) 0])) [] [cells false 1 fun (x:Nat)=>int u64 (↑(av p a):Int)] g),(3,ROrc.callN (ow true 8 ((aj (av p a)).length) 1) [(7,cells false 1 fun (j:Nat)=>any)] [cells false ((aj (av p a)).length*1) fun (j:Nat)=>int i64 (↑((aj (av p a)).getD j 0):Int)] g),(6,ROrc.val (Orc.obj (nth [ow true 10 (m+1) 1])))]),(18,[(3,ROrc.val (Orc.obj (nth [int u64 (IntKind.wrap u64 (↑(BitVec.toNat (BitVec.ofInt 64 (left:Int) &&& ~~~BitVec.ofInt 64 (↑(av p a):Int))):Int))])))])]) (fun Q=>(fun (u1:List AObj)=>(fun (u2:List AObj)=>(fun (u3:Bool)=>(fun (u4:AV)=>(fun (u5:AObj)=>(fun (u6:AV)=>(fun (u7:AObj)=>(fun (u8:AObj)=>(fun (u9:AV)=>(fun (u10:AObj)=>(fun (u11:Bool)=>1<=1/\(true=true/\Does Tryd.prog R 82 [int i64 (a:Int),ref 1 0] u1 g (ret u9) u1 g)/\u11=true/\1<=1/\(0<=(a:Int)/\(a:Int)<(n:Int))/\a+1<=n*1/\1<=1/\(u3=true->u11=true/\1<=1/\(true=true/\Does Tryd.prog R 77 [u9] u1 g (ret (fn 105 0 (nth []) 1 (nth [ref 7 0]))) u2 g)/\(true=true/\Does Tryd.prog R 75 [fn 105 0 (nth []) 1 (nth [ref 7 0])] u2 g (ret u6) [u10,cells false 1 fun (x:Nat)=>ow true 2 n 1,u8,u7,cells false 1 fun (x:Nat)=>ow true 6 m 1,cells false 1 fun (x:Nat)=>int u64 (left:Int),cells false (m*1) fun (a:Nat)=>fz Fz.auto 1 ((ah (L.getD a 0)).l.length) fun (i x:Nat)=>ag (ah (L.getD a 0)).l i,cells false 1 fun (j:Nat)=>any,u5] g)/\0<1/\(m+1)*24<=aH/\m+1<=aH/\1<=1/\m*1<=m*1/\1<=1/\(∀(c:Nat),c<1->nth [ow true 10 (m+1) 1] c=ak (fun (x:Nat)=>ow true 6 m 1) 0 1 (fun (x:Nat)=>ow true 10 (m+1) 1) c)/\1<=1/\1<=1/\(∀(c:Nat),c<1->nth [u4] c=ak (fun (x:Nat)=>int u64 (left:Int)) 0 1 (fun (x:Nat)=>u4) c)/\Q (AEx.exit 3) (St.mk [(4,ref 1 0),(6,ref 3 0),(7,ref 4 0),(8,ref 5 0)] [u10,cells false 1 fun (x:Nat)=>ow true 2 n 1,u8,u7,cells false 1 (nth [ow true 10 (m+1) 1]),cells false 1 (nth [u4]),dead,cells false 1 fun (j:Nat)=>any,u5,cells false 1 (ak (fun (j:Nat)=>fz Fz.nil 0 0 fun _ _=>any) 0 1 fun (x:Nat)=>u6),cells false ((m+1)*1) (bb 1 m (fun (i j:Nat)=>fz Fz.auto 1 ((ah (L.getD (i*1+j) 0)).l.length) fun (i_1 x:Nat)=>ag (ah (L.getD (i*1+j) 0)).l i_1) fun (i j:Nat)=>ak (fun (j:Nat)=>fz Fz.nil 0 0 fun _ _=>any) 0 1 (fun (x:Nat)=>u6) (0+i*1+j))] g))/\(u3=false->Q AEx.normal (St.mk [(4,ref 1 0),(6,ref 3 0),(7,ref 4 0),(8,ref 5 0),(10,u9),(46,AV.bool u3)] u1 g))) (Tables.follows Tryd.prog.toTables Departure.mixedOrders)) (cells false 2 (nth [int i64 p.atoms,ad p.rules]))) (int u64 (↑(av p a):Int))) (cells false (n*1) fun (a:Nat)=>int u64 (↑(hgP p a):Int))) (cells false 1 fun (x:Nat)=>fn 82 0 (nth []) 1 (nth [ref 1 0]))) (ow true 8 ((aj (av p a)).length) 1)) (cells false ((aj (av p a)).length*1) fun (j:Nat)=>int i64 (↑((aj (av p a)).getD j 0):Int))) (int u64 (IntKind.wrap u64 (↑(BitVec.toNat (BitVec.ofInt 64 (left:Int) &&& ~~~BitVec.ofInt 64 (↑(av p a):Int))):Int)))) (IntKind.wrap u64 (↑(BitVec.toNat (BitVec.ofInt 64 (IntKind.wrap u64 (↑(BitVec.toNat (BitVec.ofInt 64 (↑(hgP p a):Int)&&&BitVec.ofInt 64 (left:Int))):Int)) &&& ~~~BitVec.ofInt 64 (↑(av p a):Int))):Int)==0)) ([cells false 2 (nth [int i64 p.atoms,ad p.rules]),cells false 1 fun (x:Nat)=>ow true 2 n 1,cells false (n*1) fun (a:Nat)=>int u64 (↑(hgP p a):Int),cells false 1 fun (x:Nat)=>fn 82 0 (nth []) 1 (nth [ref 1 0]),cells false 1 fun (x:Nat)=>ow true 6 m 1,cells false 1 fun (x:Nat)=>int u64 (left:Int),cells false (m*1) fun (a:Nat)=>fz Fz.auto 1 ((ah (L.getD a 0)).l.length) fun (i x:Nat)=>ag (ah (L.getD a 0)).l i,cells false 1 fun (x:Nat)=>int u64 (↑(av p a):Int)])) ([cells false 2 (nth [int i64 p.atoms,ad p.rules]),cells false 1 fun (x:Nat)=>ow true 2 n 1,cells false (n*1) fun (a:Nat)=>int u64 (↑(hgP p a):Int),cells false 1 fun (x:Nat)=>fn 82 0 (nth []) 1 (nth [ref 1 0]),cells false 1 fun (x:Nat)=>ow true 6 m 1,cells false 1 fun (x:Nat)=>int u64 (left:Int),cells false (m*1) fun (a:Nat)=>fz Fz.auto 1 ((ah (L.getD a 0)).l.length) fun (i x:Nat)=>ag (ah (L.getD a 0)).l i])) (fun _=>by kernel_rfl) ⟨by omega,⟨rfl,(a9 (T:=LT) inferInstance [1,2] 7 (fun R _ g=>hO R g) rfl rfl rfl (by exact⟨⟨rfl,Nat.le_refl _,fun j hj=>match j,hj with|0,_=>(Le.refl _) ⟩,⟨rfl,Nat.le_refl _,fun j hj=>(by first|exact az (by first|exact trivial|apply fT)|exact Le.of_eq (fU rfl).symm)⟩,trivial⟩) (by exact⟨by omega,by omega,trivial⟩) (by exact⟨az (by exact trivial),Le.refl _,trivial⟩) (by exact aC (by exact trivial)) (by exact⟨LeO.rflc,⟨rfl,Nat.le_refl _,fun j hj=>match j,hj with|0,_=>(Le.refl _) ⟩,⟨rfl,Nat.le_refl _,fun j hj=>(by first|exact aC (by first|exact trivial|apply fT)|exact Le.of_eq (fU rfl))⟩,LeO.rflc,LeO.rflc,LeO.rflc,LeO.rflc,trivial⟩))⟩,by kernel_rfl,by omega,by omega,by omega,by omega,fun c1=>have c1:IntKind.wrap u64 (↑(BitVec.toNat (BitVec.ofInt 64 (IntKind.wrap u64 (↑(BitVec.toNat (BitVec.ofInt 64 (↑(hgP p a):Int)&&&BitVec.ofInt 64 (left:Int))):Int)) &&& ~~~BitVec.ofInt 64 (↑(av p a):Int))):Int)=0:=(beq_iff_eq.mp c1);⟨by kernel_rfl,by omega,⟨rfl,(cX _ _ _ _)⟩,⟨rfl,(a9 (T:=LT) inferInstance [7] 8 (fun R _ g=>kK R (av p a) (by simp at * <;> omega) g) rfl rfl rfl (by exact⟨⟨rfl,Nat.le_refl _,fun j hj=>match j,hj with|0,_=>(Le.refl _) ⟩,trivial⟩) (by exact⟨by omega,trivial⟩) (by exact⟨(Le.fn (fun i hi=>absurd hi (by omega)) (fun i hi=>match i,hi with|0,_=>(Le.refl _) )),trivial⟩) (by exact(Le.refl _)) (by exact⟨LeO.rflc,LeO.rflc,LeO.rflc,LeO.rflc,LeO.rflc,LeO.rflc,LeO.rflc,LeO.rflc,LeO.rflc,trivial⟩))⟩,by omega,by omega,by omega,by omega,by omega,by omega,(fun c hc=>match c,hc with|0,_=>(by kernel_rfl) ),by omega,by omega,(fun c hc=>match c,hc with|0,_=>(by kernel_rfl) ),?_⟩,fun c1=>have c1:¬IntKind.wrap u64 (↑(BitVec.toNat (BitVec.ofInt 64 (IntKind.wrap u64 (↑(BitVec.toNat (BitVec.ofInt 64 (↑(hgP p a):Int)&&&BitVec.ofInt 64 (left:Int))):Int)) &&& ~~~BitVec.ofInt 64 (↑(av p a):Int))):Int)=0:=(beq_eq_false_iff_ne.mp c1);?_⟩
       ·exfalso
        rename_i c0
        exact absurd (hcd.symm.trans c0) (by decide)
       ·refine(fF rfl (bf trivial rfl rfl))
      ·rw[hAK]
       have han:A<n:=by rw[<-hn];exact o4 A k4
       have hO:=fun (R:Res) [Tab LT R] (g:R.σ)=>kO R p n A hr (by omega) (by omega) (fun b hb=>by have:=kZ hr hx (a:=A) (by omega) (by omega) hb;omega) g
       have hcd:=(kY (p:=p) (a:=A) (fS hr (by omega)) o3).trans k2
       have hw24:=qU p A
       have hC:=fun (R:Res) [Tab LT R] (s:Nat) (hs:s<2^24) (g:R.σ)=>il R s hs g
       refine vcQ [] (lkL [(14,[4,6,7,8,9])]) (fun _=>[]) (fun Q=>Q AEx.normal (St.mk [(4,ref 1 0),(6,ref 3 0),(7,ref 4 0),(8,ref 5 0),(9,int i64 (A:Int))] [cells false 2 (nth [int i64 p.atoms,ad p.rules]),cells false 1 fun (x:Nat)=>ow true 2 n 1,cells false (n*1) fun (a:Nat)=>int u64 (↑(hgP p a):Int),cells false 1 fun (x:Nat)=>fn 82 0 (nth []) 1 (nth [ref 1 0]),cells false 1 fun (x:Nat)=>ow true 6 m 1,cells false 1 fun (x:Nat)=>int u64 (left:Int),cells false (m*1) fun (a:Nat)=>fz Fz.auto 1 ((ah (L.getD a 0)).l.length) fun (i x:Nat)=>ag (ah (L.getD a 0)).l i,dead] g)) (fun _=>by kernel_rfl) (?_)
       show Wp _ _ _ 8 _ _ _ _ _
       refine vcQ [] (lkL [(15,[4,6,7,8,9,10]),(16,[4,6,7,8,10,46]),(17,[4,6,7,8,10]),(18,[4,6,7,8])]) (lkL [(15,[(2,ROrc.kcall (int u64 (↑(av p A):Int)))]),(17,[(2,ROrc.callN (fn 105 0 (nth []) 1 (nth [ref (List.length [cells false 2 (nth [int i64 p.atoms,ad p.rules]),cells false 1 fun (x:Nat)=>ow true 2 n 1,cells false (n*1) fun (a:Nat)=>int u64 (↑(hgP p a):Int),cells false 1 fun (x:Nat)=>fn 82 0 (nth []) 1 (nth [ref 1 0]),cells false 1 fun (x:Nat)=>ow true 6 m 1,cells false 1 fun (x:Nat)=>int u64 (left:Int),cells false (m*1) fun (a:Nat)=>fz Fz.auto 1 ((ah (L.getD a 0)).l.length) fun (i x:Nat)=>ag (ah (L.getD a 0)).l i,dead]) 0])) [] [cells false 1 fun (x:Nat)=>int u64 (↑(av p A):Int)] g),(3,ROrc.callS (fz Fz.auto 1 ((ah (av p A)).l.length) fun (i x:Nat)=>ag (ah (av p A)).l i) [(8,cells false 1 fun (j:Nat)=>any)] g),(5,ROrc.val (Orc.obj (aI (L++[av p A])))),(6,ROrc.val (Orc.obj (nth [ow true 10 (m+1) 1])))]),(18,[(3,ROrc.val (Orc.obj (nth [int u64 (IntKind.wrap u64 (↑(BitVec.toNat (BitVec.ofInt 64 (left:Int) &&& ~~~BitVec.ofInt 64 (↑(av p A):Int))):Int))])))])]) (fun Q=>(fun (u1:List AObj)=>(fun (u2:List AObj)=>(fun (u3:Bool)=>(fun (u4:AV)=>(fun (u5:AV)=>(fun (u6:AObj)=>(fun (u7:AObj)=>(fun (u8:AV)=>(fun (u9:AObj)=>1<=1/\(true=true/\Does Tryd.prog R 82 [int i64 (A:Int),ref 1 0] u1 g (ret u8) u1 g)/\Tables.follows Tryd.prog.toTables Departure.mixedOrders=true/\1<=1/\(0<=(A:Int)/\(A:Int)<(n:Int))/\A+1<=n*1/\1<=1/\(u3=true->Tables.follows Tryd.prog.toTables Departure.mixedOrders=true/\1<=1/\(true=true/\Does Tryd.prog R 77 [u8] u1 g (ret (fn 105 0 (nth []) 1 (nth [ref 8 0]))) u2 g)/\(true=true/\Does Tryd.prog R 75 [fn 105 0 (nth []) 1 (nth [ref 8 0])] u2 g (ret u5) [u9,cells false 1 fun (x:Nat)=>ow true 2 n 1,u7,u6,cells false 1 fun (x:Nat)=>ow true 6 m 1,cells false 1 fun (x:Nat)=>int u64 (left:Int),cells false (m*1) fun (a:Nat)=>fz Fz.auto 1 ((ah (L.getD a 0)).l.length) fun (i x:Nat)=>ag (ah (L.getD a 0)).l i,dead,cells false 1 fun (j:Nat)=>any] g)/\0<1/\(m+1)*24<=aH/\m+1<=aH/\1<=1/\m*1<=m*1/\(∀(c:Nat),c<(m+1)*1->(fz Fz.auto 1 ((ah ((L++[av p A]).getD c 0)).l.length) fun (i x:Nat)=>ag (ah ((L++[av p A]).getD c 0)).l i)=bb 1 m (fun (i j:Nat)=>fz Fz.auto 1 ((ah (L.getD (i*1+j) 0)).l.length) fun (i_1 x:Nat)=>ag (ah (L.getD (i*1+j) 0)).l i_1) (fun (i j:Nat)=>ak (fun (j:Nat)=>fz Fz.nil 0 0 fun _ _=>any) 0 1 (fun (x:Nat)=>u5) (0+i*1+j)) c)/\1<=1/\(∀(c:Nat),c<1->nth [ow true 10 (m+1) 1] c=ak (fun (x:Nat)=>ow true 6 m 1) 0 1 (fun (x:Nat)=>ow true 10 (m+1) 1) c)/\1<=1/\1<=1/\(∀(c:Nat),c<1->nth [u4] c=ak (fun (x:Nat)=>int u64 (left:Int)) 0 1 (fun (x:Nat)=>u4) c)/\Q (AEx.exit 3) (St.mk [(4,ref 1 0),(6,ref 3 0),(7,ref 4 0),(8,ref 5 0)] [u9,cells false 1 fun (x:Nat)=>ow true 2 n 1,u7,u6,cells false 1 (nth [ow true 10 (m+1) 1]),cells false 1 (nth [u4]),dead,dead,cells false 1 fun (j:Nat)=>any,cells false 1 (ak (fun (j:Nat)=>fz Fz.nil 0 0 fun _ _=>any) 0 1 fun (x:Nat)=>u5),cells false ((m+1)*1) fun (a:Nat)=>fz Fz.auto 1 ((ah ((L++[av p A]).getD a 0)).l.length) fun (i x:Nat)=>ag (ah ((L++[av p A]).getD a 0)).l i] g))/\(u3=false->Q AEx.normal (St.mk [(4,ref 1 0),(6,ref 3 0),(7,ref 4 0),(8,ref 5 0),(10,u8),(46,AV.bool u3)] u1 g))) (cells false 2 (nth [int i64 p.atoms,ad p.rules]))) (int u64 (↑(av p A):Int))) (cells false (n*1) fun (a:Nat)=>int u64 (↑(hgP p a):Int))) (cells false 1 fun (x:Nat)=>fn 82 0 (nth []) 1 (nth [ref 1 0]))) (fz Fz.auto 1 ((ah (av p A)).l.length) fun (i x:Nat)=>ag (ah (av p A)).l i)) (int u64 (IntKind.wrap u64 (↑(BitVec.toNat (BitVec.ofInt 64 (left:Int) &&& ~~~BitVec.ofInt 64 (↑(av p A):Int))):Int)))) (IntKind.wrap u64 (↑(BitVec.toNat (BitVec.ofInt 64 (IntKind.wrap u64 (↑(BitVec.toNat (BitVec.ofInt 64 (↑(hgP p A):Int)&&&BitVec.ofInt 64 (left:Int))):Int)) &&& ~~~BitVec.ofInt 64 (↑(av p A):Int))):Int)==0)) ([cells false 2 (nth [int i64 p.atoms,ad p.rules]),cells false 1 fun (x:Nat)=>ow true 2 n 1,cells false (n*1) fun (a:Nat)=>int u64 (↑(hgP p a):Int),cells false 1 fun (x:Nat)=>fn 82 0 (nth []) 1 (nth [ref 1 0]),cells false 1 fun (x:Nat)=>ow true 6 m 1,cells false 1 fun (x:Nat)=>int u64 (left:Int),cells false (m*1) fun (a:Nat)=>fz Fz.auto 1 ((ah (L.getD a 0)).l.length) fun (i x:Nat)=>ag (ah (L.getD a 0)).l i,dead,cells false 1 fun (x:Nat)=>int u64 (↑(av p A):Int)])) ([cells false 2 (nth [int i64 p.atoms,ad p.rules]),cells false 1 fun (x:Nat)=>ow true 2 n 1,cells false (n*1) fun (a:Nat)=>int u64 (↑(hgP p a):Int),cells false 1 fun (x:Nat)=>fn 82 0 (nth []) 1 (nth [ref 1 0]),cells false 1 fun (x:Nat)=>ow true 6 m 1,cells false 1 fun (x:Nat)=>int u64 (left:Int),cells false (m*1) fun (a:Nat)=>fz Fz.auto 1 ((ah (L.getD a 0)).l.length) fun (i x:Nat)=>ag (ah (L.getD a 0)).l i,dead])) (fun _=>by kernel_rfl) ⟨by omega,⟨rfl,(a9 (T:=LT) inferInstance [1,2] 8 (fun R _ g=>hO R g) rfl rfl rfl (by exact⟨⟨rfl,Nat.le_refl _,fun j hj=>match j,hj with|0,_=>(Le.refl _) ⟩,⟨rfl,Nat.le_refl _,fun j hj=>(by first|exact az (by first|exact trivial|apply fT)|exact Le.of_eq (fU rfl).symm)⟩,trivial⟩) (by exact⟨by omega,by omega,trivial⟩) (by exact⟨az (by exact trivial),Le.refl _,trivial⟩) (by exact aC (by exact trivial)) (by exact⟨LeO.rflc,⟨rfl,Nat.le_refl _,fun j hj=>match j,hj with|0,_=>(Le.refl _) ⟩,⟨rfl,Nat.le_refl _,fun j hj=>(by first|exact aC (by first|exact trivial|apply fT)|exact Le.of_eq (fU rfl))⟩,LeO.rflc,LeO.rflc,LeO.rflc,LeO.rflc,trivial,trivial⟩))⟩,by kernel_rfl,by omega,by omega,by omega,by omega,fun c1=>have c1:IntKind.wrap u64 (↑(BitVec.toNat (BitVec.ofInt 64 (IntKind.wrap u64 (↑(BitVec.toNat (BitVec.ofInt 64 (↑(hgP p A):Int)&&&BitVec.ofInt 64 (left:Int))):Int)) &&& ~~~BitVec.ofInt 64 (↑(av p A):Int))):Int)=0:=(beq_iff_eq.mp c1);⟨by kernel_rfl,by omega,⟨rfl,(cX _ _ _ _)⟩,⟨rfl,(a9 (T:=LT) inferInstance [8] 9 (fun R _ g=>hC R (av p A) (by omega) g) rfl rfl rfl (by exact⟨⟨rfl,Nat.le_refl _,fun j hj=>match j,hj with|0,_=>(Le.refl _) ⟩,trivial⟩) (by exact⟨by omega,trivial⟩) (by exact⟨(Le.fn (fun i hi=>absurd hi (by omega)) (fun i hi=>match i,hi with|0,_=>(Le.refl _) )),trivial⟩) (by exact aC (by exact trivial)) (by exact⟨LeO.rflc,LeO.rflc,LeO.rflc,LeO.rflc,LeO.rflc,LeO.rflc,LeO.rflc,trivial,LeO.rflc,trivial⟩))⟩,by omega,by omega,by omega,by omega,by omega,?_,by omega,(fun c hc=>match c,hc with|0,_=>(by kernel_rfl) ),by omega,by omega,(fun c hc=>match c,hc with|0,_=>(by kernel_rfl) ),?_⟩,fun c1=>have c1:¬IntKind.wrap u64 (↑(BitVec.toNat (BitVec.ofInt 64 (IntKind.wrap u64 (↑(BitVec.toNat (BitVec.ofInt 64 (↑(hgP p A):Int)&&&BitVec.ofInt 64 (left:Int))):Int)) &&& ~~~BitVec.ofInt 64 (↑(av p A):Int))):Int)=0:=(beq_eq_false_iff_ne.mp c1);?_⟩
       ·exact fun c hc=>(ju (L:=L) (m:=m) (z:=fun _=>.fz .nil 0 0 (fun _ _=>.any)) (old:=fun i j=>aI L (i*1+j)) (by assumption) (fun i hi=>by show aI L (i*1+0)=aI L i;rw[show i*1+0=i by omega]) hc).trans (by kernel_rfl)
       ·show Cl R 0 (fx _ _) AEx.normal _
        refine(aU (m+1,L++[av p A],cj left (av p A)) (bi [0,1,2,3,4,5,10] 11 rfl rfl rfl rfl rfl ⟨Le.refl _,Le.refl _,Le.refl _,Le.refl _,trivial⟩ ⟨⟨rfl,Nat.le_refl _,fun j hj=>match j,hj with|0,_=>(Le.refl _)|1,_=>(Le.refl _) ⟩,⟨rfl,Nat.le_refl _,fun j hj=>match j,hj with|0,_=>(Le.refl _) ⟩,?_,⟨rfl,Nat.le_refl _,fun j hj=>match j,hj with|0,_=>(Le.fn (fun i hi=>absurd hi (by omega)) (fun i hi=>match i,hi with|0,_=>(Le.refl _) )) ⟩,⟨rfl,Nat.le_refl _,fun j hj=>match j,hj with|0,_=>(Le.refl _) ⟩,⟨rfl,Nat.le_refl _,fun j hj=>match j,hj with|0,_=>(Le.of_eq ?_) ⟩,?_,trivial⟩) ?_ ?_)
        ·exact⟨rfl,Nat.le_refl _,fun j _=>Le.of_eq rfl⟩
        ·show AV.int .u64 _=AV.int .u64 _
         rw[nA o3]
        ·exact⟨rfl,Nat.le_refl _,fun j _=>Le.of_eq rfl⟩
        ·exact hnx.1
        ·exact hnx.2
       ·exfalso
        rename_i c0
        exact absurd (hcd.symm.trans c0) (by decide)
      ·exact absurd k1 (by omega)
    ·have hl0:left=0:=by omega
     subst hl0
     have hLo:L=aX p:=by
      obtain⟨f,f1,f2⟩:=o5
      obtain⟨f,rfl⟩:∃k,f=k+1:=⟨f-1,by omega⟩
      rw[<-f2]
      show L=L++(if (0:Nat)=0 then[] else _)
      rw[if_pos rfl,List.append_nil]
     subst hLo
     subst o1
     refine⟨_,To.refl _,vcQ [] (lkL [(19,[2,3])]) (fun _=>[]) (fun Q=>1<=1/\Q AEx.ret (St.mk [(2,ow true 6 ((aX p).length) 1),(3,int i64 0)] [cells false 2 (nth [int i64 p.atoms,ad p.rules]),cells false 1 fun (x:Nat)=>ow true 2 n 1,cells false (n*1) fun (a:Nat)=>int u64 (↑(hgP p a):Int),cells false 1 fun (x:Nat)=>fn 82 0 (nth []) 1 (nth [ref 1 0]),cells false 1 fun (x:Nat)=>ow true 6 ((aX p).length) 1,cells false 1 fun (x:Nat)=>int u64 (↑0:Int),cells false ((aX p).length*1) fun (a:Nat)=>fz Fz.auto 1 ((ah ((aX p).getD a 0)).l.length) fun (i x:Nat)=>ag (ah ((aX p).getD a 0)).l i] g)) (fun _=>by kernel_rfl) ⟨by omega,?_⟩⟩
     show bv Tryd.prog R 0 _ _ _ _ .ret _
     refine dB (.tup 2 (nth [.ow true 6 (aX p).length 1,.int .i64 0])) _ rfl trivial (e9 0 [(0,.tup 2 (nth [a8 (aX p).length (fun i=>ah ((aX p).getD i 0)),.int .i64 0]))] (Nat.le_refl _) (Nat.zero_le _) (fun i hi=>absurd hi (Nat.not_lt_zero i)) ⟨aF.tup (fun j hj=>?_),trivial⟩)
     match j,hj with
     |0,_=>exact aF.le (aF.ow (o:=6) (N:=(aX p).length*1) (c:=aI (aX p)) (get:=aI (aX p)) (fr:=false) rfl (Nat.zero_le _) (Nat.le_refl _) (by decide) (fun j _=>aF.below (fX _ _))) (Le.fz rfl (fun i j hi hj=>by
       show aI (aX p) (i*1+j)=_
       rw[show i*1+j=i by omega]
       rfl))
     |1,_=>exact aF.below trivial
end Go.Avm.Pack
namespace Go.Avm.Pack
open Go Go.Avm Go.Proofs
open Go.IntKind (i64 u64)
open Go.Avm.AV (int bool any fz fp sl ow ref fn ifc val agg tup)
open Go.Avm.AObj (cells dead)
open Go.Avm.Oc (ret)
set_option maxRecDepth 4000
theorem la (R:Res)(v:Nat->Int)(n:Int)(x:Int)(h:0<=n/\n<=24)(g:R.σ):Does Tryd.prog R 76 [.ref 0 2,.int .i64 n,.int .i64 x] [.cells false 27 (aP v)] g (.ret (.int .u64 (aK v x n.toNat))) [.cells false 27 (aP v)] g:=by
 obtain⟨n,rfl⟩:∃m:Nat,n=m:=⟨n.toNat,by omega⟩
 rw[Int.toNat_natCast]
 refine aA (nt:=26) (rs:=[.tmp 6]) (k0:=1) (by kernel_rfl) (by kernel_rfl) (by kernel_rfl) rfl ?_
 refine vcQ [] (lkL [(0,[0,1,2]),(1,[0,1,2,7]),(2,[0,2,7,9,10])]) (fun _=>[]) (fun Q=>Wp Tryd.prog R 26 1 Rd.top (ae Tryd.prog 76) [1,1,0,1,0] (aq Tryd.prog R 26 1 Rd.top (ae Tryd.prog 76) Q [Kont.blk 0,Kont.seq [1,1,1]]) (St.mk [(0,ref 0 2),(2,int i64 x),(7,int u64 0),(9,int i64 (n:Int)),(10,int i64 0)] [cells false 27 (aP v)] g)) (fun _=>by kernel_rfl) (?_)
 refine(bj (by kernel_rfl) (fun (k:Nat)=>⟨[(0,ref 0 2),(2,int i64 x),(7,.int .u64 (aK v x k)),(9,int i64 (n:Int)),(10,.int .i64 k)],[cells false 27 (aP v)],g⟩) (fun (k:Nat)=>(k<=n)) (fun (k:Nat)=>(n-k)) 0 (bf ⟨Le.refl _,Le.refl _,(Le.of_eq (by kernel_rfl)),Le.refl _,(Le.of_eq (by kernel_rfl)),trivial⟩ rfl rfl) ?_ (fun k hi=>?_))
 ·omega
 ·refine vcQ [] (lkL [(3,[0,2,7,9,10,11]),(4,[0,2,7,8,9,10]),(5,[0,2,7,8,9,10,19]),(6,[0,2,7,9,10]),(7,[0,2,7,9,10])]) (lkL [(5,[(4,ROrc.kop (int i64 (v k)))]),(6,[(2,ROrc.pcall (int u64 (↑(2^k):Int)))])]) (fun Q=>(fun (u1:Int)=>(fun (u2:Int)=>(fun (u3:List AObj)=>(fun (u4:Int)=>(decide (u1<u2)=true->(0<=u1/\u1<(↑24:Int))/\OpOk Tryd.prog R (Oper.mk (some 17) (Op.load 43 (Operand.tmp 16)) 43 "table.go:67" #[Edge.mk 3 Ground.data] none) (evO [Row.mk (some 16) none (ref 0 (k+2)) false (some []) [],Row.mk (some 15) none (ref 0 2) false (some []) [],Row.mk (some 14) none (int i64 u1) false (some []) [],Row.mk (some 13) none (ref 0 2) false (some []) []] [(0,ref 0 2),(2,int i64 x),(7,int u64 u4),(8,int i64 u1),(9,int i64 u2),(10,int i64 u1)] []) u3 g (int i64 (v k)) u3 g/\((v k==x)=true->(∀(hp:List AObj) (g:R.σ),true=true/\Does Tryd.prog R 79 [int i64 u1] hp g (ret (int u64 (↑(2^k):Int))) hp g)/\(-9223372036854775808<=u1+1/\u1+1<=9223372036854775807)/\Q AEx.normal (St.mk [(0,ref 0 2),(2,int i64 x),(7,int u64 (IntKind.wrap u64 (↑(BitVec.toNat (BitVec.ofInt 64 u4|||BitVec.ofInt 64 (↑(2^k):Int))):Int))),(9,int i64 u2),(10,int i64 (u1+1))] u3 g))/\((v k==x)=false->(-9223372036854775808<=u1+1/\u1+1<=9223372036854775807)/\Q AEx.normal (St.mk [(0,ref 0 2),(2,int i64 x),(7,int u64 u4),(9,int i64 u2),(10,int i64 (u1+1))] u3 g)))/\(decide (u1<u2)=false->Q (AEx.exit 0) (St.mk [(0,ref 0 2),(2,int i64 x),(7,int u64 u4),(9,int i64 u2),(10,int i64 u1),(11,AV.bool (decide (u1<u2)))] u3 g))) ((↑(aK v x k):Int))) ([cells false 27 (aP v)])) ((n:Int))) ((k:Int))) (fun _=>by kernel_rfl) ⟨fun c1=>have c1:(k:Int)<(n:Int):=(of_decide_eq_true c1);⟨by omega,?_,fun c2=>have c2:v k=x:=(beq_iff_eq.mp c2);⟨(fun _ _=>⟨rfl,(gq _ _ (by omega) _ _)⟩),by omega,?_⟩,fun c2=>have c2:¬v k=x:=(beq_eq_false_iff_ne.mp c2);⟨by omega,?_⟩⟩,fun c1=>have c1:¬(k:Int)<(n:Int):=(of_decide_eq_false c1);?_⟩
  ·exact e8 rfl rfl (by kernel_rfl) rfl (by show _+1<=27;omega) (nq (by omega) (by omega))
  ·refine(aU (k+1) (bf ⟨Le.refl _,Le.refl _,(Le.of_eq ?_),Le.refl _,(Le.of_eq (by kernel_rfl)),trivial⟩ rfl rfl) ?_ ?_)
   ·show AV.int .u64 _=AV.int .u64 _
    congr 1
    rw[ie,if_pos c2]
    exact Tb.u64_or (bR (Nat.lt_of_lt_of_le (kz v x k) (Nat.pow_le_pow_right (by decide) (by omega)))) (bR (Nat.pow_lt_pow_right (by decide) (by omega)))
   ·omega
   ·omega
  ·refine(aU (k+1) (bf ⟨Le.refl _,Le.refl _,(Le.of_eq ?_),Le.refl _,(Le.of_eq (by kernel_rfl)),trivial⟩ rfl rfl) ?_ ?_)
   ·show AV.int .u64 _=AV.int .u64 _
    rw[ie,if_neg c2]
   ·omega
   ·omega
  ·have hk:k=n:=by omega
   subst hk
   refine⟨_,To.refl _,vcQ [] (lkL [(8,[6])]) (fun _=>[]) (fun Q=>Q AEx.ret (St.mk [(6,int u64 (↑(aK v x k):Int))] [cells false 27 (aP v)] g)) (fun _=>by kernel_rfl) (?_)⟩
   refine(ax (ba _ _ rfl trivial rfl rfl rfl) (Le.refl _))
def stF (p:Prg)(most:Nat):List Int->Nat->List Nat->List Nat
 |[],s,out=>if out.length=most then out else if fol p.rules.l s=s then out++[s] else out
 |a::r,s,out=>if out.length=most then out else stF p most r (s|||2^a.toNat) (stF p most r s out)
theorem ep {p:Prg}{most:Nat}:∀{r:List Int} {s:Nat} {out:List Nat},out.length<=most->out.length<=(stF p most r s out).length/\(stF p most r s out).length<=most/\((stF p most r s out).length=out.length->stF p most r s out=out)
 |[],s,out,h=>by
  show out.length<=(if out.length=most then out else if fol p.rules.l s=s then out++[s] else out).length/\_
  show _/\(if out.length=most then out else if fol p.rules.l s=s then out++[s] else out).length<=most/\((if out.length=most then out else if fol p.rules.l s=s then out++[s] else out).length=out.length->(if out.length=most then out else if fol p.rules.l s=s then out++[s] else out)=out)
  split
  ·exact⟨Nat.le_refl _,h,fun _=>rfl⟩
  ·split
   ·rw[List.length_append,List.length_singleton]
    exact⟨by omega,by omega,fun h=>by omega⟩
   ·exact⟨Nat.le_refl _,h,fun _=>rfl⟩
 |a::r,s,out,h=>by
  obtain⟨a1,a2,a3⟩:=ep (p:=p) (most:=most) (r:=r) (s:=s) (out:=out) h
  obtain⟨b1,b2,b3⟩:=ep (p:=p) (most:=most) (r:=r) (s:=s|||2^a.toNat) (out:=stF p most r s out) a2
  show out.length<=(if out.length=most then out else stF p most r (s|||2^a.toNat) (stF p most r s out)).length/\(if out.length=most then out else stF p most r (s|||2^a.toNat) (stF p most r s out)).length<=most/\((if out.length=most then out else stF p most r (s|||2^a.toNat) (stF p most r s out)).length=out.length->(if out.length=most then out else stF p most r (s|||2^a.toNat) (stF p most r s out))=out)
  split
  ·exact⟨Nat.le_refl _,h,fun _=>rfl⟩
  ·exact⟨by omega,b2,fun h=>by
    have h1:=a3 (by omega)
    rw[h1] at b3 b1 h ⊢
    exact b3 h⟩
theorem xW {p:Prg}{most:Nat}{r:List Int}{s:Nat}{out:List Nat}(h:out.length<=most)(h0:out≠[]):stF p most r s out≠[]:=fun e=>by
 have:=(ep (p:=p) (r:=r) (s:=s) h).1
 rw[e] at this
 exact h0 (List.length_eq_zero_iff.1 (Nat.le_zero.1 this))
structure FromC (p:Prg)(most:Nat)(O:KL Int)(r:List Int)(k:Int):Prop where
 nn:∀(R:Res) [Tab LT R] (s:Nat) (g:R.σ),s<2^24->stF p most r s []=[]->Does Tryd.prog R 78 [.int .i64 k,.int .u64 s,.ref 0 0,.ref 1 0,.ref 2 0,.ref 3 0,.ref 4 0] [.cells false 1 (fun _=>.fz .nil 0 0 (fun _ _=>.any)),.cells false 1 (fun _=>.int .i64 most),.cells false 1 (fun _=>am O),.cells false 1 (fun _=>.fn 78 0 (nth []) 5 (nth [.ref 0 0,.ref 1 0,.ref 2 0,.ref 3 0,.ref 4 0])),.cells false 2 (nth [.int .i64 p.atoms,ad p.rules])] g (.ret (.tup 0 (nth []))) [.cells false 1 (fun _=>.fz .nil 0 0 (fun _ _=>.any)),.cells false 1 (fun _=>.int .i64 most),.cells false 1 (fun _=>am O),.cells false 1 (fun _=>.fn 78 0 (nth []) 5 (nth [.ref 0 0,.ref 1 0,.ref 2 0,.ref 3 0,.ref 4 0])),.cells false 2 (nth [.int .i64 p.atoms,ad p.rules])] g
 nw:∀(R:Res) [Tab LT R] (s m:Nat) (L:List Nat) (g:R.σ),s<2^24->stF p most r s []=L->L≠[]->m=L.length->Does Tryd.prog R 78 [.int .i64 k,.int .u64 s,.ref 0 0,.ref 1 0,.ref 2 0,.ref 3 0,.ref 4 0] [.cells false 1 (fun _=>.fz .nil 0 0 (fun _ _=>.any)),.cells false 1 (fun _=>.int .i64 most),.cells false 1 (fun _=>am O),.cells false 1 (fun _=>.fn 78 0 (nth []) 5 (nth [.ref 0 0,.ref 1 0,.ref 2 0,.ref 3 0,.ref 4 0])),.cells false 2 (nth [.int .i64 p.atoms,ad p.rules])] g (.ret (.tup 0 (nth []))) [.cells false 1 (fun _=>.ow true 5 m 1),.cells false 1 (fun _=>.int .i64 most),.cells false 1 (fun _=>am O),.cells false 1 (fun _=>.fn 78 0 (nth []) 5 (nth [.ref 0 0,.ref 1 0,.ref 2 0,.ref 3 0,.ref 4 0])),.cells false 2 (nth [.int .i64 p.atoms,ad p.rules]),.cells false (m*1) (aI L)] g
 on:∀(R:Res) [Tab LT R] (s m:Nat) (L:List Nat) (g:R.σ),s<2^24->L≠[]->m=L.length->m<=most->stF p most r s L=L->Does Tryd.prog R 78 [.int .i64 k,.int .u64 s,.ref 0 0,.ref 1 0,.ref 2 0,.ref 3 0,.ref 4 0] [.cells false 1 (fun _=>.ow true 5 m 1),.cells false 1 (fun _=>.int .i64 most),.cells false 1 (fun _=>am O),.cells false 1 (fun _=>.fn 78 0 (nth []) 5 (nth [.ref 0 0,.ref 1 0,.ref 2 0,.ref 3 0,.ref 4 0])),.cells false 2 (nth [.int .i64 p.atoms,ad p.rules]),.cells false (m*1) (aI L)] g (.ret (.tup 0 (nth []))) [.cells false 1 (fun _=>.ow true 5 m 1),.cells false 1 (fun _=>.int .i64 most),.cells false 1 (fun _=>am O),.cells false 1 (fun _=>.fn 78 0 (nth []) 5 (nth [.ref 0 0,.ref 1 0,.ref 2 0,.ref 3 0,.ref 4 0])),.cells false 2 (nth [.int .i64 p.atoms,ad p.rules]),.cells false (m*1) (aI L)] g
 ow:∀(R:Res) [Tab LT R] (s m m':Nat) (L L':List Nat) (g:R.σ),s<2^24->L≠[]->m=L.length->m<=most->stF p most r s L=L'->m'=L'.length->m≠m'->Does Tryd.prog R 78 [.int .i64 k,.int .u64 s,.ref 0 0,.ref 1 0,.ref 2 0,.ref 3 0,.ref 4 0] [.cells false 1 (fun _=>.ow true 5 m 1),.cells false 1 (fun _=>.int .i64 most),.cells false 1 (fun _=>am O),.cells false 1 (fun _=>.fn 78 0 (nth []) 5 (nth [.ref 0 0,.ref 1 0,.ref 2 0,.ref 3 0,.ref 4 0])),.cells false 2 (nth [.int .i64 p.atoms,ad p.rules]),.cells false (m*1) (aI L)] g (.ret (.tup 0 (nth []))) [.cells false 1 (fun _=>.ow true 6 m' 1),.cells false 1 (fun _=>.int .i64 most),.cells false 1 (fun _=>am O),.cells false 1 (fun _=>.fn 78 0 (nth []) 5 (nth [.ref 0 0,.ref 1 0,.ref 2 0,.ref 3 0,.ref 4 0])),.cells false 2 (nth [.int .i64 p.atoms,ad p.rules]),.dead,.cells false (m'*1) (aI L')] g
theorem lb {P:Program}{R:Res}{k0:Nat}{rs:List ResultVar}{x:AV}{hp':List AObj}{g':R.σ}{s:St R.σ}(v:AV)(ob:List Prop)(h:dN (aB P) s rs=some (v,ob))(hob:ar ob)(ht:To R k0 ⟨[(0,v)],s.hp,s.g⟩ ⟨[(0,x)],hp',g'⟩):bv P R k0 rs (.ret x) hp' g' .normal s:=
 ⟨v,ob,x,_,h,hob,rfl,ht,rfl,rfl,rfl⟩
theorem lc {f:Nat->Nat}{g:FuncId}(h0:f 0=0:=by rfl)(h1:f 1=1:=by rfl)(h2:f 2=2:=by rfl)(h3:f 3=3:=by rfl)(h4:f 4=4:=by rfl):Le (.fn g 0 (nth []) 5 (nth [.ref 0 0,.ref 1 0,.ref 2 0,.ref 3 0,.ref 4 0])) (aS f (.fn g 0 (nth []) 5 (nth [.ref 0 0,.ref 1 0,.ref 2 0,.ref 3 0,.ref 4 0]))):=
 Le.fn (fun i hi=>absurd hi (Nat.not_lt_zero i)) (fun i hi=>match i,hi with
  |0,_=>Le.of_eq (by show AV.ref 0 0=.ref (f 0) 0;rw[h0])
  |1,_=>Le.of_eq (by show AV.ref 1 0=.ref (f 1) 0;rw[h1])
  |2,_=>Le.of_eq (by show AV.ref 2 0=.ref (f 2) 0;rw[h2])
  |3,_=>Le.of_eq (by show AV.ref 3 0=.ref (f 3) 0;rw[h3])
  |4,_=>Le.of_eq (by show AV.ref 4 0=.ref (f 4) 0;rw[h4]))
theorem xX {p:Prg}{most:Nat}{O:KL Int}(hm:1<=most/\most<=100)(hO:O.l.length<=10)(hl:p.rules.l.length<1000000)(hr:∀r,r∈p.rules.l->aQ r):FromC p most O [] O.l.length:=by
 have hroom:aH=140737488355328:=rfl
 have hb:decide ((O.l.length:Int)<(O.l.length:Int))=false:=decide_eq_false (by omega)
 have hz:(((0:Nat):Int)==(most:Int))=false:=by rw[beq_eq_false_iff_ne];omega
 have e0:∀s L,stF p most [] s L=if L.length=most then L else if fol p.rules.l s=s then L++[s] else L:=fun s L=>rfl
 have hC:=fun (R:Res) [Tab LT R] (s:Nat) (hs:s<2^24) (g:R.σ)=>il R s hs g
 constructor
 ·intro R _ s g hs h
  rw[e0,if_neg (by show ¬0=most;omega)] at h
  have hf:((fol p.rules.l s:Int)==(s:Int))=false:=by
   rw[beq_eq_false_iff_ne]
   intro e
   rw[if_pos (by omega)] at h
   cases h
  refine aA (nt:=47) (rs:=[]) (k0:=5) (by kernel_rfl) (by kernel_rfl) (by kernel_rfl) rfl ?_
  refine vcQ [[0,1,0],[0,1,1,1,0],[0,1,1,1,1,1,0]] (lkL [(0,[0,1,2,4,5,6,9]),(1,[0,1,2,4,5,6,14]),(4,[1,2,35])]) (lkL [(4,[(2,ROrc.pcall (int u64 (↑(fol p.rules.l s):Int)))])]) (fun Q=>(fun (u1:List AObj)=>(fun (u2:Int)=>(fun (u3:Bool)=>(fun (u4:AEx->St R.σ->Prop)=>(fun (u5:AV)=>(fun (u6:Bool)=>1<=1/\1<=1/\(u6=true->Wp Tryd.prog R 47 5 Rd.top (ae Tryd.prog 78) [0,1,0] u4 (St.mk [(0,int i64 u2),(1,u5),(2,ref 0 0),(4,ref 2 0),(5,ref 3 0),(6,ref 4 0),(9,AV.bool u6)] u1 g))/\(u6=false->1<=1/\(decide (u2<u2)=true->Wp Tryd.prog R 47 5 Rd.top (ae Tryd.prog 78) [0,1,1,1,0] u4 (St.mk [(0,int i64 u2),(1,u5),(2,ref 0 0),(4,ref 2 0),(5,ref 3 0),(6,ref 4 0),(14,AV.bool (decide (u2<u2)))] u1 g))/\(decide (u2<u2)=false->2<=2/\(∀(hp:List AObj) (g:R.σ),true=true/\Does Tryd.prog R 80 [au p,u5] hp g (ret (int u64 (↑(fol p.rules.l s):Int))) hp g)/\(u3=true->Wp Tryd.prog R 47 5 Rd.top (ae Tryd.prog 78) [0,1,1,1,1,1,0] u4 (St.mk [(1,u5),(2,ref 0 0),(35,AV.bool u3)] u1 g))/\(u3=false->Q AEx.normal (St.mk [(1,u5),(2,ref 0 0),(35,AV.bool u3)] u1 g))))) ((↑0:Int)==(most:Int))) (int u64 (s:Int))) (aq Tryd.prog R 47 5 Rd.top (ae Tryd.prog 78) Q [Kont.blk 0])) ((↑(fol p.rules.l s):Int)==(s:Int))) ((O.l.length:Int))) ([cells false 1 fun (x:Nat)=>fz Fz.nil 0 0 fun _ _=>any,cells false 1 fun (x:Nat)=>int i64 (most:Int),cells false 1 fun (x:Nat)=>fz O.2 1 (O.l.length) fun (i x:Nat)=>ag O.l i,cells false 1 fun (x:Nat)=>fn 78 0 (nth []) 5 (nth [ref 0 0,ref 1 0,ref 2 0,ref 3 0,ref 4 0]),cells false 2 (nth [int i64 p.atoms,ad p.rules])])) (fun _=>by kernel_rfl) ⟨by omega,by omega,fun hcc=>(nomatch (hz.symm.trans hcc)),fun _=>⟨by omega,fun hcc=>(nomatch (hb.symm.trans hcc)),fun _=>⟨by omega,(fun _ _=>⟨rfl,(kA _ _ _ _ (by omega) (by omega) (by omega) _)⟩),fun hcc=>(nomatch (hf.symm.trans hcc)),fun _=>?_⟩⟩⟩
  refine(ax (ba _ _ rfl trivial rfl rfl rfl) (Le.refl _))
 ·intro R _ s m L g hs h hL hmL
  rw[e0,if_neg (by show ¬0=most;omega)] at h
  have hf:((fol p.rules.l s:Int)==(s:Int))=true:=by
   rw[beq_iff_eq]
   by_cases e:fol p.rules.l s=s
   ·omega
   ·rw[if_neg e] at h
    exact absurd h.symm hL
  rw[if_pos (by rw[beq_iff_eq] at hf;omega)] at h
  subst h
  subst hmL
  refine aA (nt:=47) (rs:=[]) (k0:=5) (by kernel_rfl) (by kernel_rfl) (by kernel_rfl) rfl ?_
  refine vcQ [[0,1,0],[0,1,1,1,0],[0,1,1,1,1,1,1]] (lkL [(0,[0,1,2,4,5,6,9]),(1,[0,1,2,4,5,6,14]),(4,[1,2,35])]) (lkL [(4,[(2,ROrc.pcall (int u64 (↑(fol p.rules.l s):Int)))]),(5,[(2,ROrc.callN (fn 105 0 (nth []) 1 (nth [ref (List.length [cells false 1 fun (x:Nat)=>fz Fz.nil 0 0 fun _ _=>any,cells false 1 fun (x:Nat)=>int i64 (most:Int),cells false 1 fun (x:Nat)=>fz O.2 1 (O.l.length) fun (i x:Nat)=>ag O.l i,cells false 1 fun (x:Nat)=>fn 78 0 (nth []) 5 (nth [ref 0 0,ref 1 0,ref 2 0,ref 3 0,ref 4 0]),cells false 2 (nth [int i64 p.atoms,ad p.rules])]) 0])) [] [cells false 1 fun (x:Nat)=>int u64 (s:Int)] g),(3,ROrc.callS (fz Fz.auto 1 ((ah s).l.length) fun (i x:Nat)=>ag (ah s).l i) [(5,cells false 1 fun (j:Nat)=>any)] g),(5,ROrc.val (Orc.obj (aI ([]++[s])))),(6,ROrc.val (Orc.obj (nth [ow true 7 1 1])))])]) (fun Q=>(fun (u1:List AObj)=>(fun (u2:List AObj)=>(fun (u3:Int)=>(fun (u4:AV)=>(fun (u5:AV)=>(fun (u6:AEx->St R.σ->Prop)=>(fun (u7:AObj)=>(fun (u8:AObj)=>(fun (u9:Bool)=>(fun (u10:AV)=>(fun (u11:Bool)=>(fun (u12:AObj)=>(fun (u13:AObj)=>1<=1/\1<=1/\(u11=true->Wp Tryd.prog R 47 5 Rd.top (ae Tryd.prog 78) [0,1,0] u6 (St.mk [(0,int i64 u3),(1,u10),(2,ref 0 0),(4,ref 2 0),(5,ref 3 0),(6,ref 4 0),(9,AV.bool u11)] u1 g))/\(u11=false->1<=1/\(decide (u3<u3)=true->Wp Tryd.prog R 47 5 Rd.top (ae Tryd.prog 78) [0,1,1,1,0] u6 (St.mk [(0,int i64 u3),(1,u10),(2,ref 0 0),(4,ref 2 0),(5,ref 3 0),(6,ref 4 0),(14,AV.bool (decide (u3<u3)))] u1 g))/\(decide (u3<u3)=false->2<=2/\(∀(hp:List AObj) (g:R.σ),true=true/\Does Tryd.prog R 80 [au p,u10] hp g (ret (int u64 (↑(fol p.rules.l s):Int))) hp g)/\(u9=true->Tables.follows Tryd.prog.toTables Departure.mixedOrders=true/\1<=1/\(true=true/\Does Tryd.prog R 77 [u10] u1 g (ret (fn 105 0 (nth []) 1 (nth [ref 5 0]))) u2 g)/\(true=true/\Does Tryd.prog R 75 [fn 105 0 (nth []) 1 (nth [ref 5 0])] u2 g (ret u4) [cells false 1 fun (x:Nat)=>u5,u13,u8,u7,u12,cells false 1 fun (j:Nat)=>any] g)/\0<1/\24<=aH/\1<=aH/\1<=1/\(∀(c:Nat),c<1->(fz Fz.auto 1 ((ah (([]++[s]).getD c 0)).l.length) fun (i x:Nat)=>ag (ah (([]++[s]).getD c 0)).l i)=bb 1 0 (fun _ _=>any) (fun (i j:Nat)=>ak (fun (j:Nat)=>u5) 0 1 (fun (x:Nat)=>u4) (0+i*1+j)) c)/\1<=1/\(∀(c:Nat),c<1->nth [ow true 7 1 1] c=ak (fun (x:Nat)=>u5) 0 1 (fun (x:Nat)=>ow true 7 1 1) c)/\Q AEx.normal (St.mk [] [cells false 1 (nth [ow true 7 1 1]),u13,u8,u7,u12,cells false 1 fun (j:Nat)=>any,cells false 1 (ak (fun (j:Nat)=>u5) 0 1 fun (x:Nat)=>u4),cells false 1 fun (a:Nat)=>fz Fz.auto 1 ((ah (([]++[s]).getD a 0)).l.length) fun (i x:Nat)=>ag (ah (([]++[s]).getD a 0)).l i] g))/\(u9=false->Wp Tryd.prog R 47 5 Rd.top (ae Tryd.prog 78) [0,1,1,1,1,1,1] u6 (St.mk [(1,u10),(2,ref 0 0),(35,AV.bool u9)] u1 g))))) (cells false 1 fun (x:Nat)=>int i64 (most:Int))) (cells false 2 (nth [int i64 p.atoms,ad p.rules]))) ((↑0:Int)==(most:Int))) (int u64 (s:Int))) ((↑(fol p.rules.l s):Int)==(s:Int))) (cells false 1 fun (x:Nat)=>fz O.2 1 (O.l.length) fun (i x:Nat)=>ag O.l i)) (cells false 1 fun (x:Nat)=>fn 78 0 (nth []) 5 (nth [ref 0 0,ref 1 0,ref 2 0,ref 3 0,ref 4 0]))) (aq Tryd.prog R 47 5 Rd.top (ae Tryd.prog 78) Q [Kont.blk 0])) (fz Fz.nil 0 0 fun _ _=>any)) (fz Fz.auto 1 ((ah s).l.length) fun (i x:Nat)=>ag (ah s).l i)) ((O.l.length:Int))) ([cells false 1 fun (x:Nat)=>fz Fz.nil 0 0 fun _ _=>any,cells false 1 fun (x:Nat)=>int i64 (most:Int),cells false 1 fun (x:Nat)=>fz O.2 1 (O.l.length) fun (i x:Nat)=>ag O.l i,cells false 1 fun (x:Nat)=>fn 78 0 (nth []) 5 (nth [ref 0 0,ref 1 0,ref 2 0,ref 3 0,ref 4 0]),cells false 2 (nth [int i64 p.atoms,ad p.rules]),cells false 1 fun (x:Nat)=>int u64 (s:Int)])) ([cells false 1 fun (x:Nat)=>fz Fz.nil 0 0 fun _ _=>any,cells false 1 fun (x:Nat)=>int i64 (most:Int),cells false 1 fun (x:Nat)=>fz O.2 1 (O.l.length) fun (i x:Nat)=>ag O.l i,cells false 1 fun (x:Nat)=>fn 78 0 (nth []) 5 (nth [ref 0 0,ref 1 0,ref 2 0,ref 3 0,ref 4 0]),cells false 2 (nth [int i64 p.atoms,ad p.rules])])) (fun _=>by kernel_rfl) ⟨by omega,by omega,fun hcc=>(nomatch (hz.symm.trans hcc)),fun _=>⟨by omega,fun hcc=>(nomatch (hb.symm.trans hcc)),fun _=>⟨by omega,(fun _ _=>⟨rfl,(kA _ _ _ _ (by omega) (by omega) (by omega) _)⟩),fun _=>⟨by kernel_rfl,by omega,⟨rfl,(cX _ _ _ _)⟩,⟨rfl,(a9 (T:=LT) inferInstance [5] 6 (fun R _ g=>hC R (s) (by omega) g) rfl rfl rfl (by exact⟨⟨rfl,Nat.le_refl _,fun j hj=>match j,hj with|0,_=>(Le.refl _) ⟩,trivial⟩) (by exact⟨by omega,trivial⟩) (by exact⟨(Le.fn (fun i hi=>absurd hi (by omega)) (fun i hi=>match i,hi with|0,_=>(Le.refl _) )),trivial⟩) (by exact aC (by exact trivial)) (by exact⟨LeO.rflc,LeO.rflc,LeO.rflc,LeO.rflc,LeO.rflc,LeO.rflc,trivial⟩))⟩,by omega,by omega,by omega,by omega,?_,by omega,(fun c hc=>match c,hc with|0,_=>(by kernel_rfl) ),?_⟩,fun hcc=>(nomatch (hf.symm.trans hcc))⟩⟩⟩
  ·exact fun c hc=>(ju (L:=[]) (m:=0) (z:=fun _=>.fz .nil 0 0 (fun _ _=>.any)) (old:=fun _ _=>.any) rfl (fun i hi=>absurd hi (Nat.not_lt_zero i)) hc).trans (by kernel_rfl)
  ·refine lb (.tup 0 (nth [])) _ rfl trivial ?_
   refine bi [0,1,2,3,4,7] 8 ?_ ?_ ?_ ?_ ?_ ?_ ?_
   ·rfl
   ·rfl
   ·rfl
   ·rfl
   ·rfl
   ·exact⟨Le.refl _,trivial⟩
   ·exact⟨⟨rfl,Nat.le_refl _,fun j hj=>match j,hj with|0,_=>Le.refl _⟩,LeO.refl _,LeO.refl _,⟨rfl,Nat.le_refl _,fun j hj=>lc⟩,⟨rfl,Nat.le_refl _,fun j hj=>match j,hj with|0,_=>Le.refl _|1,_=>az (by exact trivial)⟩,⟨rfl,Nat.le_refl _,fun j hj=>Le.refl _⟩,trivial⟩
 ·intro R _ s m L g hs hL hmL hmm h
  rw[e0] at h
  refine aA (nt:=47) (rs:=[]) (k0:=6) (by kernel_rfl) (by kernel_rfl) (by kernel_rfl) rfl ?_
  refine vcQ [[0,1,1,1,0]] (lkL [(0,[0,1,2,4,5,6,9]),(1,[0,1,2,4,5,6,14]),(4,[1,2,35])]) (lkL [(4,[(2,ROrc.pcall (int u64 (↑(fol p.rules.l s):Int)))]),(5,[(2,ROrc.callN (fn 105 0 (nth []) 1 (nth [ref (List.length [cells false 1 fun (x:Nat)=>ow true 5 m 1,cells false 1 fun (x:Nat)=>int i64 (most:Int),cells false 1 fun (x:Nat)=>fz O.2 1 (O.l.length) fun (i x:Nat)=>ag O.l i,cells false 1 fun (x:Nat)=>fn 78 0 (nth []) 5 (nth [ref 0 0,ref 1 0,ref 2 0,ref 3 0,ref 4 0]),cells false 2 (nth [int i64 p.atoms,ad p.rules]),cells false (m*1) fun (a:Nat)=>fz Fz.auto 1 ((ah (L.getD a 0)).l.length) fun (i x:Nat)=>ag (ah (L.getD a 0)).l i]) 0])) [] [cells false 1 fun (x:Nat)=>int u64 (s:Int)] g),(3,ROrc.callS (fz Fz.auto 1 ((ah s).l.length) fun (i x:Nat)=>ag (ah s).l i) [(6,cells false 1 fun (j:Nat)=>any)] g),(6,ROrc.val (Orc.obj (nth [ow true 8 (m+1) 1])))])]) (fun Q=>(fun (u1:List AObj)=>(fun (u2:List AObj)=>(fun (u3:Int)=>(fun (u4:AV)=>(fun (u5:AObj)=>(fun (u6:AObj)=>(fun (u7:Bool)=>(fun (u8:AV)=>(fun (u9:Bool)=>(fun (u10:AObj)=>(fun (u11:AObj)=>1<=1/\1<=1/\(u9=true->Q AEx.normal (St.mk [(0,int i64 u3),(1,u8),(2,ref 0 0),(4,ref 2 0),(5,ref 3 0),(6,ref 4 0),(9,AV.bool u9)] u1 g))/\(u9=false->1<=1/\(decide (u3<u3)=true->Wp Tryd.prog R 47 6 Rd.top (ae Tryd.prog 78) [0,1,1,1,0] (aq Tryd.prog R 47 6 Rd.top (ae Tryd.prog 78) Q [Kont.blk 0]) (St.mk [(0,int i64 u3),(1,u8),(2,ref 0 0),(4,ref 2 0),(5,ref 3 0),(6,ref 4 0),(14,AV.bool (decide (u3<u3)))] u1 g))/\(decide (u3<u3)=false->2<=2/\(∀(hp:List AObj) (g:R.σ),true=true/\Does Tryd.prog R 80 [au p,u8] hp g (ret (int u64 (↑(fol p.rules.l s):Int))) hp g)/\(u7=true->Tables.follows Tryd.prog.toTables Departure.mixedOrders=true/\1<=1/\(true=true/\Does Tryd.prog R 77 [u8] u1 g (ret (fn 105 0 (nth []) 1 (nth [ref 6 0]))) u2 g)/\(true=true/\Does Tryd.prog R 75 [fn 105 0 (nth []) 1 (nth [ref 6 0])] u2 g (ret u4) [cells false 1 fun (x:Nat)=>ow true 5 m 1,u11,u6,u5,u10,cells false (m*1) fun (a:Nat)=>fz Fz.auto 1 ((ah (L.getD a 0)).l.length) fun (i x:Nat)=>ag (ah (L.getD a 0)).l i,cells false 1 fun (j:Nat)=>any] g)/\0<1/\(m+1)*24<=aH/\m+1<=aH/\1<=1/\m*1<=m*1/\1<=1/\(∀(c:Nat),c<1->nth [ow true 8 (m+1) 1] c=ak (fun (x:Nat)=>ow true 5 m 1) 0 1 (fun (x:Nat)=>ow true 8 (m+1) 1) c)/\Q AEx.normal (St.mk [] [cells false 1 (nth [ow true 8 (m+1) 1]),u11,u6,u5,u10,dead,cells false 1 fun (j:Nat)=>any,cells false 1 (ak (fun (j:Nat)=>fz Fz.nil 0 0 fun _ _=>any) 0 1 fun (x:Nat)=>u4),cells false ((m+1)*1) (bb 1 m (fun (i j:Nat)=>fz Fz.auto 1 ((ah (L.getD (i*1+j) 0)).l.length) fun (i_1 x:Nat)=>ag (ah (L.getD (i*1+j) 0)).l i_1) fun (i j:Nat)=>ak (fun (j:Nat)=>fz Fz.nil 0 0 fun _ _=>any) 0 1 (fun (x:Nat)=>u4) (0+i*1+j))] g))/\(u7=false->Q AEx.normal (St.mk [(1,u8),(2,ref 0 0),(35,AV.bool u7)] u1 g))))) (cells false 1 fun (x:Nat)=>int i64 (most:Int))) (cells false 2 (nth [int i64 p.atoms,ad p.rules]))) ((m:Int)==(most:Int))) (int u64 (s:Int))) ((↑(fol p.rules.l s):Int)==(s:Int))) (cells false 1 fun (x:Nat)=>fz O.2 1 (O.l.length) fun (i x:Nat)=>ag O.l i)) (cells false 1 fun (x:Nat)=>fn 78 0 (nth []) 5 (nth [ref 0 0,ref 1 0,ref 2 0,ref 3 0,ref 4 0]))) (fz Fz.auto 1 ((ah s).l.length) fun (i x:Nat)=>ag (ah s).l i)) ((O.l.length:Int))) ([cells false 1 fun (x:Nat)=>ow true 5 m 1,cells false 1 fun (x:Nat)=>int i64 (most:Int),cells false 1 fun (x:Nat)=>fz O.2 1 (O.l.length) fun (i x:Nat)=>ag O.l i,cells false 1 fun (x:Nat)=>fn 78 0 (nth []) 5 (nth [ref 0 0,ref 1 0,ref 2 0,ref 3 0,ref 4 0]),cells false 2 (nth [int i64 p.atoms,ad p.rules]),cells false (m*1) fun (a:Nat)=>fz Fz.auto 1 ((ah (L.getD a 0)).l.length) fun (i x:Nat)=>ag (ah (L.getD a 0)).l i,cells false 1 fun (x:Nat)=>int u64 (s:Int)])) ([cells false 1 fun (x:Nat)=>ow true 5 m 1,cells false 1 fun (x:Nat)=>int i64 (most:Int),cells false 1 fun (x:Nat)=>fz O.2 1 (O.l.length) fun (i x:Nat)=>ag O.l i,cells false 1 fun (x:Nat)=>fn 78 0 (nth []) 5 (nth [ref 0 0,ref 1 0,ref 2 0,ref 3 0,ref 4 0]),cells false 2 (nth [int i64 p.atoms,ad p.rules]),cells false (m*1) fun (a:Nat)=>fz Fz.auto 1 ((ah (L.getD a 0)).l.length) fun (i x:Nat)=>ag (ah (L.getD a 0)).l i])) (fun _=>by kernel_rfl) ⟨by omega,by omega,fun c1=>have c1:(m:Int)=(most:Int):=(beq_iff_eq.mp c1);?_,fun c1=>have c1:¬(m:Int)=(most:Int):=(beq_eq_false_iff_ne.mp c1);⟨by omega,fun hcc=>(nomatch (hb.symm.trans hcc)),fun _=>⟨by omega,(fun _ _=>⟨rfl,(kA _ _ _ _ (by omega) (by omega) (by omega) _)⟩),fun c2=>have c2:(↑(fol p.rules.l s):Int)=(s:Int):=(beq_iff_eq.mp c2);⟨by kernel_rfl,by omega,⟨rfl,(cX _ _ _ _)⟩,⟨rfl,(a9 (T:=LT) inferInstance [6] 7 (fun R _ g=>hC R (s) (by omega) g) rfl rfl rfl (by exact⟨⟨rfl,Nat.le_refl _,fun j hj=>match j,hj with|0,_=>(Le.refl _) ⟩,trivial⟩) (by exact⟨by omega,trivial⟩) (by exact⟨(Le.fn (fun i hi=>absurd hi (by omega)) (fun i hi=>match i,hi with|0,_=>(Le.refl _) )),trivial⟩) (by exact aC (by exact trivial)) (by exact⟨LeO.rflc,LeO.rflc,LeO.rflc,LeO.rflc,LeO.rflc,LeO.rflc,LeO.rflc,trivial⟩))⟩,by omega,by omega,by omega,by omega,by omega,by omega,(fun c hc=>match c,hc with|0,_=>(by kernel_rfl) ),?_⟩,fun c2=>have c2:¬(↑(fol p.rules.l s):Int)=(s:Int):=(beq_eq_false_iff_ne.mp c2);?_⟩⟩⟩
  ·refine(ax (ba _ _ rfl trivial rfl rfl rfl) (Le.refl _))
  ·exfalso
   rw[if_neg (by omega),if_pos (by omega)] at h
   have:=congrArg List.length h
   rw[List.length_append,List.length_singleton] at this
   omega
  ·refine(ax (ba _ _ rfl trivial rfl rfl rfl) (Le.refl _))
 ·intro R _ s m m' L L' g hs hL hmL hmm h hm' hne
  rw[e0] at h
  have hf:((fol p.rules.l s:Int)==(s:Int))=true:=by
   rw[beq_iff_eq]
   by_cases e:fol p.rules.l s=s
   ·omega
   ·rw[if_neg e,ite_self] at h
    subst h
    omega
  have h1:¬L.length=most:=fun e=>by
   rw[if_pos e] at h
   subst h
   omega
  rw[if_neg h1,if_pos (by rw[beq_iff_eq] at hf;omega)] at h
  subst h
  have hmm1:m'=m+1:=by rw[hm',List.length_append,hmL];rfl
  subst hmm1
  have hz:((m:Int)==(most:Int))=false:=by rw[beq_eq_false_iff_ne];omega
  refine aA (nt:=47) (rs:=[]) (k0:=6) (by kernel_rfl) (by kernel_rfl) (by kernel_rfl) rfl ?_
  refine vcQ [[0,1,0],[0,1,1,1,0],[0,1,1,1,1,1,1]] (lkL [(0,[0,1,2,4,5,6,9]),(1,[0,1,2,4,5,6,14]),(4,[1,2,35])]) (lkL [(4,[(2,ROrc.pcall (int u64 (↑(fol p.rules.l s):Int)))]),(5,[(2,ROrc.callN (fn 105 0 (nth []) 1 (nth [ref (List.length [cells false 1 fun (x:Nat)=>ow true 5 m 1,cells false 1 fun (x:Nat)=>int i64 (most:Int),cells false 1 fun (x:Nat)=>fz O.2 1 (O.l.length) fun (i x:Nat)=>ag O.l i,cells false 1 fun (x:Nat)=>fn 78 0 (nth []) 5 (nth [ref 0 0,ref 1 0,ref 2 0,ref 3 0,ref 4 0]),cells false 2 (nth [int i64 p.atoms,ad p.rules]),cells false (m*1) fun (a:Nat)=>fz Fz.auto 1 ((ah (L.getD a 0)).l.length) fun (i x:Nat)=>ag (ah (L.getD a 0)).l i]) 0])) [] [cells false 1 fun (x:Nat)=>int u64 (s:Int)] g),(3,ROrc.callS (fz Fz.auto 1 ((ah s).l.length) fun (i x:Nat)=>ag (ah s).l i) [(6,cells false 1 fun (j:Nat)=>any)] g),(5,ROrc.val (Orc.obj (aI (L++[s])))),(6,ROrc.val (Orc.obj (nth [ow true 8 (m+1) 1])))])]) (fun Q=>(fun (u1:List AObj)=>(fun (u2:List AObj)=>(fun (u3:Int)=>(fun (u4:AV)=>(fun (u5:AEx->St R.σ->Prop)=>(fun (u6:AObj)=>(fun (u7:AObj)=>(fun (u8:Bool)=>(fun (u9:AV)=>(fun (u10:Bool)=>(fun (u11:AObj)=>(fun (u12:AObj)=>1<=1/\1<=1/\(u10=true->Wp Tryd.prog R 47 6 Rd.top (ae Tryd.prog 78) [0,1,0] u5 (St.mk [(0,int i64 u3),(1,u9),(2,ref 0 0),(4,ref 2 0),(5,ref 3 0),(6,ref 4 0),(9,AV.bool u10)] u1 g))/\(u10=false->1<=1/\(decide (u3<u3)=true->Wp Tryd.prog R 47 6 Rd.top (ae Tryd.prog 78) [0,1,1,1,0] u5 (St.mk [(0,int i64 u3),(1,u9),(2,ref 0 0),(4,ref 2 0),(5,ref 3 0),(6,ref 4 0),(14,AV.bool (decide (u3<u3)))] u1 g))/\(decide (u3<u3)=false->2<=2/\(∀(hp:List AObj) (g:R.σ),true=true/\Does Tryd.prog R 80 [au p,u9] hp g (ret (int u64 (↑(fol p.rules.l s):Int))) hp g)/\(u8=true->Tables.follows Tryd.prog.toTables Departure.mixedOrders=true/\1<=1/\(true=true/\Does Tryd.prog R 77 [u9] u1 g (ret (fn 105 0 (nth []) 1 (nth [ref 6 0]))) u2 g)/\(true=true/\Does Tryd.prog R 75 [fn 105 0 (nth []) 1 (nth [ref 6 0])] u2 g (ret u4) [cells false 1 fun (x:Nat)=>ow true 5 m 1,u12,u7,u6,u11,cells false (m*1) fun (a:Nat)=>fz Fz.auto 1 ((ah (L.getD a 0)).l.length) fun (i x:Nat)=>ag (ah (L.getD a 0)).l i,cells false 1 fun (j:Nat)=>any] g)/\0<1/\(m+1)*24<=aH/\m+1<=aH/\1<=1/\m*1<=m*1/\(∀(c:Nat),c<(m+1)*1->(fz Fz.auto 1 ((ah ((L++[s]).getD c 0)).l.length) fun (i x:Nat)=>ag (ah ((L++[s]).getD c 0)).l i)=bb 1 m (fun (i j:Nat)=>fz Fz.auto 1 ((ah (L.getD (i*1+j) 0)).l.length) fun (i_1 x:Nat)=>ag (ah (L.getD (i*1+j) 0)).l i_1) (fun (i j:Nat)=>ak (fun (j:Nat)=>fz Fz.nil 0 0 fun _ _=>any) 0 1 (fun (x:Nat)=>u4) (0+i*1+j)) c)/\1<=1/\(∀(c:Nat),c<1->nth [ow true 8 (m+1) 1] c=ak (fun (x:Nat)=>ow true 5 m 1) 0 1 (fun (x:Nat)=>ow true 8 (m+1) 1) c)/\Q AEx.normal (St.mk [] [cells false 1 (nth [ow true 8 (m+1) 1]),u12,u7,u6,u11,dead,cells false 1 fun (j:Nat)=>any,cells false 1 (ak (fun (j:Nat)=>fz Fz.nil 0 0 fun _ _=>any) 0 1 fun (x:Nat)=>u4),cells false ((m+1)*1) fun (a:Nat)=>fz Fz.auto 1 ((ah ((L++[s]).getD a 0)).l.length) fun (i x:Nat)=>ag (ah ((L++[s]).getD a 0)).l i] g))/\(u8=false->Wp Tryd.prog R 47 6 Rd.top (ae Tryd.prog 78) [0,1,1,1,1,1,1] u5 (St.mk [(1,u9),(2,ref 0 0),(35,AV.bool u8)] u1 g))))) (cells false 1 fun (x:Nat)=>int i64 (most:Int))) (cells false 2 (nth [int i64 p.atoms,ad p.rules]))) ((m:Int)==(most:Int))) (int u64 (s:Int))) ((↑(fol p.rules.l s):Int)==(s:Int))) (cells false 1 fun (x:Nat)=>fz O.2 1 (O.l.length) fun (i x:Nat)=>ag O.l i)) (cells false 1 fun (x:Nat)=>fn 78 0 (nth []) 5 (nth [ref 0 0,ref 1 0,ref 2 0,ref 3 0,ref 4 0]))) (aq Tryd.prog R 47 6 Rd.top (ae Tryd.prog 78) Q [Kont.blk 0])) (fz Fz.auto 1 ((ah s).l.length) fun (i x:Nat)=>ag (ah s).l i)) ((O.l.length:Int))) ([cells false 1 fun (x:Nat)=>ow true 5 m 1,cells false 1 fun (x:Nat)=>int i64 (most:Int),cells false 1 fun (x:Nat)=>fz O.2 1 (O.l.length) fun (i x:Nat)=>ag O.l i,cells false 1 fun (x:Nat)=>fn 78 0 (nth []) 5 (nth [ref 0 0,ref 1 0,ref 2 0,ref 3 0,ref 4 0]),cells false 2 (nth [int i64 p.atoms,ad p.rules]),cells false (m*1) fun (a:Nat)=>fz Fz.auto 1 ((ah (L.getD a 0)).l.length) fun (i x:Nat)=>ag (ah (L.getD a 0)).l i,cells false 1 fun (x:Nat)=>int u64 (s:Int)])) ([cells false 1 fun (x:Nat)=>ow true 5 m 1,cells false 1 fun (x:Nat)=>int i64 (most:Int),cells false 1 fun (x:Nat)=>fz O.2 1 (O.l.length) fun (i x:Nat)=>ag O.l i,cells false 1 fun (x:Nat)=>fn 78 0 (nth []) 5 (nth [ref 0 0,ref 1 0,ref 2 0,ref 3 0,ref 4 0]),cells false 2 (nth [int i64 p.atoms,ad p.rules]),cells false (m*1) fun (a:Nat)=>fz Fz.auto 1 ((ah (L.getD a 0)).l.length) fun (i x:Nat)=>ag (ah (L.getD a 0)).l i])) (fun _=>by kernel_rfl) ⟨by omega,by omega,fun hcc=>(nomatch (hz.symm.trans hcc)),fun _=>⟨by omega,fun hcc=>(nomatch (hb.symm.trans hcc)),fun _=>⟨by omega,(fun _ _=>⟨rfl,(kA _ _ _ _ (by omega) (by omega) (by omega) _)⟩),fun _=>⟨by kernel_rfl,by omega,⟨rfl,(cX _ _ _ _)⟩,⟨rfl,(a9 (T:=LT) inferInstance [6] 7 (fun R _ g=>hC R (s) (by omega) g) rfl rfl rfl (by exact⟨⟨rfl,Nat.le_refl _,fun j hj=>match j,hj with|0,_=>(Le.refl _) ⟩,trivial⟩) (by exact⟨by omega,trivial⟩) (by exact⟨(Le.fn (fun i hi=>absurd hi (by omega)) (fun i hi=>match i,hi with|0,_=>(Le.refl _) )),trivial⟩) (by exact aC (by exact trivial)) (by exact⟨LeO.rflc,LeO.rflc,LeO.rflc,LeO.rflc,LeO.rflc,LeO.rflc,LeO.rflc,trivial⟩))⟩,by omega,by omega,by omega,by omega,by omega,?_,by omega,(fun c hc=>match c,hc with|0,_=>(by kernel_rfl) ),?_⟩,fun hcc=>(nomatch (hf.symm.trans hcc))⟩⟩⟩
  ·exact fun c hc=>(ju (L:=L) (m:=m) (z:=fun _=>.fz .nil 0 0 (fun _ _=>.any)) (old:=fun i j=>aI L (i*1+j)) hmL (fun i hi=>by show aI L (i*1+0)=aI L i;rw[show i*1+0=i by omega]) hc).trans (by kernel_rfl)
  ·refine lb (.tup 0 (nth [])) _ rfl trivial ?_
   refine bi [0,1,2,3,4,5,8] 9 ?_ ?_ ?_ ?_ ?_ ?_ ?_
   ·rfl
   ·rfl
   ·rfl
   ·rfl
   ·rfl
   ·exact⟨Le.refl _,trivial⟩
   ·exact⟨⟨rfl,Nat.le_refl _,fun j hj=>match j,hj with|0,_=>Le.refl _⟩,LeO.refl _,LeO.refl _,⟨rfl,Nat.le_refl _,fun j hj=>lc⟩,⟨rfl,Nat.le_refl _,fun j hj=>match j,hj with|0,_=>Le.refl _|1,_=>az (by exact trivial)⟩,trivial,⟨rfl,Nat.le_refl _,fun j hj=>Le.refl _⟩,trivial⟩
theorem xY {p:Prg}{most:Nat}{O:KL Int}{r:List Int}{k:Nat}(hm:1<=most/\most<=100)(hO:O.l.length<=10)(hk:k<O.l.length)(ha24:0<=O.l.getD k 0/\O.l.getD k 0<24)(ih:FromC p most O r ((k:Int)+1)):FromC p most O (O.l.getD k 0::r) (k:Int):=by
 have hroom:aH=140737488355328:=rfl
 have hb:decide ((k:Int)<(O.l.length:Int))=true:=decide_eq_true (by omega)
 have hz:(((0:Nat):Int)==(most:Int))=false:=by rw[beq_eq_false_iff_ne];omega
 have e0:∀s L,stF p most (O.l.getD k 0::r) s L=if L.length=most then L else stF p most r (s|||2^(O.l.getD k 0).toNat) (stF p most r s L):=fun s L=>rfl
 have hor:∀s:Nat,s<2^24->IntKind.u64.wrap ((BitVec.ofInt 64 (s:Int)|||BitVec.ofInt 64 ((2^(O.l.getD k 0).toNat:Nat):Int)).toNat:Int)=((s|||2^(O.l.getD k 0).toNat:Nat):Int):=fun s hs=>Tb.u64_or (bR hs) (bR (Nat.pow_lt_pow_right (by decide) (by omega)))
 have hor24:∀s:Nat,s<2^24->s|||2^(O.l.getD k 0).toNat<2^24:=fun s hs=>jn hs (by omega)
 constructor
 ·intro R _ s g hs h
  rw[e0,if_neg (by show ¬0=most;omega)] at h
  obtain⟨t,ht⟩:∃t,s|||2^(O.l.getD k 0).toNat=t:=⟨_,rfl⟩
  have ht24:t<2^24:=by rw[<-ht];exact hor24 s hs
  have hoS:=(hor s hs).trans (congrArg (fun n:Nat=>(n:Int)) ht)
  have hL1:stF p most r s []=[]:=by
   by_cases e:stF p most r s []=[]
   ·exact e
   ·exact absurd h (xW (ep (Nat.zero_le _)).2.1 e)
  rw[hL1,ht] at h
  have i1:=fun (R:Res) [Tab LT R] (g:R.σ)=>ih.nn R s g hs hL1
  have i2:∀(R:Res) [Tab LT R] (g:R.σ),Does Tryd.prog R 78 [.int .i64 ((k:Int)+1),.int .u64 (IntKind.u64.wrap ((BitVec.ofInt 64 (s:Int)|||BitVec.ofInt 64 ((2^(O.l.getD k 0).toNat:Nat):Int)).toNat:Int)),.ref 0 0,.ref 1 0,.ref 2 0,.ref 3 0,.ref 4 0] [.cells false 1 (fun _=>.fz .nil 0 0 (fun _ _=>.any)),.cells false 1 (fun _=>.int .i64 most),.cells false 1 (fun _=>am O),.cells false 1 (fun _=>.fn 78 0 (nth []) 5 (nth [.ref 0 0,.ref 1 0,.ref 2 0,.ref 3 0,.ref 4 0])),.cells false 2 (nth [.int .i64 p.atoms,ad p.rules])] g (.ret (.tup 0 (nth []))) [.cells false 1 (fun _=>.fz .nil 0 0 (fun _ _=>.any)),.cells false 1 (fun _=>.int .i64 most),.cells false 1 (fun _=>am O),.cells false 1 (fun _=>.fn 78 0 (nth []) 5 (nth [.ref 0 0,.ref 1 0,.ref 2 0,.ref 3 0,.ref 4 0])),.cells false 2 (nth [.int .i64 p.atoms,ad p.rules])] g:=fun R _ g=>by rw[hoS];exact ih.nn R t g ht24 h
  refine aA (nt:=47) (rs:=[]) (k0:=5) (by kernel_rfl) (by kernel_rfl) (by kernel_rfl) rfl ?_
  refine vcQ [[0,1,0],[0,1,1,1,1]] (lkL [(0,[0,1,2,4,5,6,9]),(1,[0,1,2,4,5,6,14]),(2,[0,1,4,5])]) (lkL [(2,[(4,ROrc.call (tup 0 (nth [])) [cells false 1 fun (x:Nat)=>fz Fz.nil 0 0 fun _ _=>any,cells false 1 fun (x:Nat)=>int i64 (most:Int),cells false 1 fun (x:Nat)=>am O,cells false 1 fun (x:Nat)=>fn 78 0 (nth []) 5 (nth [ref 0 0,ref 1 0,ref 2 0,ref 3 0,ref 4 0]),cells false 2 (nth [int i64 p.atoms,ad p.rules])] g)]),(3,[(8,ROrc.pcall (int u64 (↑(2^(O.l.getD k 0).toNat):Int))),(10,ROrc.callS (tup 0 (nth [])) [(2,cells false 1 fun (x:Nat)=>am O)] g)])]) (fun Q=>(fun (u1:List AObj)=>(fun (u2:Int)=>(fun (u3:Int)=>(fun (u4:Bool)=>1<=1/\1<=1/\(u4=true->Wp Tryd.prog R 47 5 Rd.top (ae Tryd.prog 78) [0,1,0] (aq Tryd.prog R 47 5 Rd.top (ae Tryd.prog 78) Q [Kont.blk 0]) (St.mk [(0,int i64 u3),(1,int u64 (s:Int)),(2,ref 0 0),(4,ref 2 0),(5,ref 3 0),(6,ref 4 0),(9,AV.bool u4)] u1 g))/\(u4=false->1<=1/\(decide (u3<u2)=true->1<=1/\(-9223372036854775808<=u3+1/\u3+1<=9223372036854775807)/\(true=true/\Does Tryd.prog R 78 [int i64 (u3+1),int u64 (s:Int),ref 0 0,ref 1 0,ref 2 0,ref 3 0,ref 4 0] u1 g (ret (tup 0 (nth []))) u1 g)/\Tables.follows Tryd.prog.toTables Departure.mixedOrders=true/\1<=1/\(-9223372036854775808<=u3+1/\u3+1<=9223372036854775807)/\1<=1/\(0<=u3/\u3<u2)/\1<=1/\(∀(hp:List AObj) (g:R.σ),true=true/\Does Tryd.prog R 79 [ag O.l k] hp g (ret (int u64 (↑(2^(O.l.getD k 0).toNat):Int))) hp g)/\(true=true/\Does Tryd.prog R 78 [int i64 (u3+1),int u64 (IntKind.wrap u64 (↑(BitVec.toNat (BitVec.ofInt 64 (s:Int)|||BitVec.ofInt 64 (↑(2^(O.l.getD k 0).toNat):Int))):Int)),ref 0 0,ref 1 0,ref 2 0,ref 3 0,ref 4 0] u1 g (ret (tup 0 (nth []))) u1 g)/\Q AEx.normal (St.mk [] u1 g))/\(decide (u3<u2)=false->Wp Tryd.prog R 47 5 Rd.top (ae Tryd.prog 78) [0,1,1,1,1] (aq Tryd.prog R 47 5 Rd.top (ae Tryd.prog 78) Q [Kont.blk 0]) (St.mk [(0,int i64 u3),(1,int u64 (s:Int)),(2,ref 0 0),(4,ref 2 0),(5,ref 3 0),(6,ref 4 0),(14,AV.bool (decide (u3<u2)))] u1 g)))) ((↑0:Int)==(most:Int))) ((k:Int))) ((O.l.length:Int))) ([cells false 1 fun (x:Nat)=>fz Fz.nil 0 0 fun _ _=>any,cells false 1 fun (x:Nat)=>int i64 (most:Int),cells false 1 fun (x:Nat)=>fz O.2 1 (O.l.length) fun (i x:Nat)=>ag O.l i,cells false 1 fun (x:Nat)=>fn 78 0 (nth []) 5 (nth [ref 0 0,ref 1 0,ref 2 0,ref 3 0,ref 4 0]),cells false 2 (nth [int i64 p.atoms,ad p.rules])])) (fun _=>by kernel_rfl) ⟨by omega,by omega,fun hcc=>(nomatch (hz.symm.trans hcc)),fun _=>⟨by omega,fun _=>⟨by omega,by omega,⟨rfl,(i1 _ _)⟩,by kernel_rfl,by omega,by omega,by omega,by omega,by omega,(fun _ _=>⟨rfl,(ef _ _ (by omega) _ _)⟩),⟨rfl,(i2 _ _)⟩,?_⟩,fun hcc=>(nomatch (hb.symm.trans hcc))⟩⟩
  refine(ax (ba _ _ rfl trivial rfl rfl rfl) (Le.refl _))
 ·intro R _ s m' L' g hs h hL' hm'
  rw[e0,if_neg (by show ¬0=most;omega)] at h
  obtain⟨t,ht⟩:∃t,s|||2^(O.l.getD k 0).toNat=t:=⟨_,rfl⟩
  have ht24:t<2^24:=by rw[<-ht];exact hor24 s hs
  have hoS:=(hor s hs).trans (congrArg (fun n:Nat=>(n:Int)) ht)
  rw[ht] at h
  obtain⟨L,hL⟩:∃L,stF p most r s []=L:=⟨_,rfl⟩
  have hlen:=ep (p:=p) (most:=most) (r:=r) (s:=s) (out:=[]) (Nat.zero_le _)
  rw[hL] at h hlen
  by_cases e:L=[]
  ·subst e
   have i1:=fun (R:Res) [Tab LT R] (g:R.σ)=>ih.nn R s g hs hL
   have i2:∀(R:Res) [Tab LT R] (g:R.σ),Does Tryd.prog R 78 [.int .i64 ((k:Int)+1),.int .u64 (IntKind.u64.wrap ((BitVec.ofInt 64 (s:Int)|||BitVec.ofInt 64 ((2^(O.l.getD k 0).toNat:Nat):Int)).toNat:Int)),.ref 0 0,.ref 1 0,.ref 2 0,.ref 3 0,.ref 4 0] [.cells false 1 (fun _=>.fz .nil 0 0 (fun _ _=>.any)),.cells false 1 (fun _=>.int .i64 most),.cells false 1 (fun _=>am O),.cells false 1 (fun _=>.fn 78 0 (nth []) 5 (nth [.ref 0 0,.ref 1 0,.ref 2 0,.ref 3 0,.ref 4 0])),.cells false 2 (nth [.int .i64 p.atoms,ad p.rules])] g (.ret (.tup 0 (nth []))) [.cells false 1 (fun _=>.ow true 5 m' 1),.cells false 1 (fun _=>.int .i64 most),.cells false 1 (fun _=>am O),.cells false 1 (fun _=>.fn 78 0 (nth []) 5 (nth [.ref 0 0,.ref 1 0,.ref 2 0,.ref 3 0,.ref 4 0])),.cells false 2 (nth [.int .i64 p.atoms,ad p.rules]),.cells false (m'*1) (aI L')] g:=fun R _ g=>by rw[hoS];exact ih.nw R t m' L' g ht24 h hL' hm'
   refine aA (nt:=47) (rs:=[]) (k0:=5) (by kernel_rfl) (by kernel_rfl) (by kernel_rfl) rfl ?_
   refine vcQ [[0,1,0],[0,1,1,1,1]] (lkL [(0,[0,1,2,4,5,6,9]),(1,[0,1,2,4,5,6,14]),(2,[0,1,4,5])]) (lkL [(2,[(4,ROrc.call (tup 0 (nth [])) [cells false 1 fun (x:Nat)=>fz Fz.nil 0 0 fun _ _=>any,cells false 1 fun (x:Nat)=>int i64 (most:Int),cells false 1 fun (x:Nat)=>am O,cells false 1 fun (x:Nat)=>fn 78 0 (nth []) 5 (nth [ref 0 0,ref 1 0,ref 2 0,ref 3 0,ref 4 0]),cells false 2 (nth [int i64 p.atoms,ad p.rules])] g)]),(3,[(8,ROrc.pcall (int u64 (↑(2^(O.l.getD k 0).toNat):Int))),(10,ROrc.callN (tup 0 (nth [])) [(0,cells false 1 fun (x:Nat)=>ow true 5 m' 1),(2,cells false 1 fun (x:Nat)=>am O)] [cells false (m'*1) (aI L')] g)])]) (fun Q=>(fun (u1:List AObj)=>(fun (u2:List AObj)=>(fun (u3:Int)=>(fun (u4:Int)=>(fun (u5:Bool)=>1<=1/\1<=1/\(u5=true->Wp Tryd.prog R 47 5 Rd.top (ae Tryd.prog 78) [0,1,0] (aq Tryd.prog R 47 5 Rd.top (ae Tryd.prog 78) Q [Kont.blk 0]) (St.mk [(0,int i64 u4),(1,int u64 (s:Int)),(2,ref 0 0),(4,ref 2 0),(5,ref 3 0),(6,ref 4 0),(9,AV.bool u5)] u1 g))/\(u5=false->1<=1/\(decide (u4<u3)=true->1<=1/\(-9223372036854775808<=u4+1/\u4+1<=9223372036854775807)/\(true=true/\Does Tryd.prog R 78 [int i64 (u4+1),int u64 (s:Int),ref 0 0,ref 1 0,ref 2 0,ref 3 0,ref 4 0] u1 g (ret (tup 0 (nth []))) u1 g)/\Tables.follows Tryd.prog.toTables Departure.mixedOrders=true/\1<=1/\(-9223372036854775808<=u4+1/\u4+1<=9223372036854775807)/\1<=1/\(0<=u4/\u4<u3)/\1<=1/\(∀(hp:List AObj) (g:R.σ),true=true/\Does Tryd.prog R 79 [ag O.l k] hp g (ret (int u64 (↑(2^(O.l.getD k 0).toNat):Int))) hp g)/\(true=true/\Does Tryd.prog R 78 [int i64 (u4+1),int u64 (IntKind.wrap u64 (↑(BitVec.toNat (BitVec.ofInt 64 (s:Int)|||BitVec.ofInt 64 (↑(2^(O.l.getD k 0).toNat):Int))):Int)),ref 0 0,ref 1 0,ref 2 0,ref 3 0,ref 4 0] u1 g (ret (tup 0 (nth []))) u2 g)/\Q AEx.normal (St.mk [] u2 g))/\(decide (u4<u3)=false->Wp Tryd.prog R 47 5 Rd.top (ae Tryd.prog 78) [0,1,1,1,1] (aq Tryd.prog R 47 5 Rd.top (ae Tryd.prog 78) Q [Kont.blk 0]) (St.mk [(0,int i64 u4),(1,int u64 (s:Int)),(2,ref 0 0),(4,ref 2 0),(5,ref 3 0),(6,ref 4 0),(14,AV.bool (decide (u4<u3)))] u1 g)))) ((↑0:Int)==(most:Int))) ((k:Int))) ((O.l.length:Int))) ([cells false 1 fun (x:Nat)=>ow true 5 m' 1,cells false 1 fun (x:Nat)=>int i64 (most:Int),cells false 1 fun (x:Nat)=>fz O.2 1 (O.l.length) fun (i x:Nat)=>ag O.l i,cells false 1 fun (x:Nat)=>fn 78 0 (nth []) 5 (nth [ref 0 0,ref 1 0,ref 2 0,ref 3 0,ref 4 0]),cells false 2 (nth [int i64 p.atoms,ad p.rules]),cells false (m'*1) fun (a:Nat)=>fz Fz.auto 1 ((ah (L'.getD a 0)).l.length) fun (i x:Nat)=>ag (ah (L'.getD a 0)).l i])) ([cells false 1 fun (x:Nat)=>fz Fz.nil 0 0 fun _ _=>any,cells false 1 fun (x:Nat)=>int i64 (most:Int),cells false 1 fun (x:Nat)=>fz O.2 1 (O.l.length) fun (i x:Nat)=>ag O.l i,cells false 1 fun (x:Nat)=>fn 78 0 (nth []) 5 (nth [ref 0 0,ref 1 0,ref 2 0,ref 3 0,ref 4 0]),cells false 2 (nth [int i64 p.atoms,ad p.rules])])) (fun _=>by kernel_rfl) ⟨by omega,by omega,fun hcc=>(nomatch (hz.symm.trans hcc)),fun _=>⟨by omega,fun _=>⟨by omega,by omega,⟨rfl,(i1 _ _)⟩,by kernel_rfl,by omega,by omega,by omega,by omega,by omega,(fun _ _=>⟨rfl,(ef _ _ (by omega) _ _)⟩),⟨rfl,(i2 _ _)⟩,?_⟩,fun hcc=>(nomatch (hb.symm.trans hcc))⟩⟩
   refine(ax (ba _ _ rfl trivial rfl rfl rfl) (Le.refl _))
  ·obtain⟨m,hmL⟩:∃m,m=L.length:=⟨_,rfl⟩
   have h0:0<m:=by rw[hmL];exact List.length_pos_iff.2 e
   have hmm:m<=most:=by rw[hmL];exact hlen.2.1
   have hlen2:=ep (p:=p) (most:=most) (r:=r) (s:=t) (out:=L) hlen.2.1
   rw[h] at hlen2
   have h0':0<m':=by omega
   have hmm':m'<=most:=by omega
   have i1:=fun (R:Res) [Tab LT R] (g:R.σ)=>ih.nw R s m L g hs hL e hmL
   by_cases hmm1:m=m'
   ·have hLL:L'=L:=hlen2.2.2 (by omega)
    subst hLL
    subst hmm1
    have i2:∀(R:Res) [Tab LT R] (g:R.σ),Does Tryd.prog R 78 [.int .i64 ((k:Int)+1),.int .u64 (IntKind.u64.wrap ((BitVec.ofInt 64 (s:Int)|||BitVec.ofInt 64 ((2^(O.l.getD k 0).toNat:Nat):Int)).toNat:Int)),.ref 0 0,.ref 1 0,.ref 2 0,.ref 3 0,.ref 4 0] [.cells false 1 (fun _=>.ow true 5 m 1),.cells false 1 (fun _=>.int .i64 most),.cells false 1 (fun _=>am O),.cells false 1 (fun _=>.fn 78 0 (nth []) 5 (nth [.ref 0 0,.ref 1 0,.ref 2 0,.ref 3 0,.ref 4 0])),.cells false 2 (nth [.int .i64 p.atoms,ad p.rules]),.cells false (m*1) (aI L')] g (.ret (.tup 0 (nth []))) [.cells false 1 (fun _=>.ow true 5 m 1),.cells false 1 (fun _=>.int .i64 most),.cells false 1 (fun _=>am O),.cells false 1 (fun _=>.fn 78 0 (nth []) 5 (nth [.ref 0 0,.ref 1 0,.ref 2 0,.ref 3 0,.ref 4 0])),.cells false 2 (nth [.int .i64 p.atoms,ad p.rules]),.cells false (m*1) (aI L')] g:=fun R _ g=>by rw[hoS];exact ih.on R t m L' g ht24 hL' hmL hmm h
    refine aA (nt:=47) (rs:=[]) (k0:=5) (by kernel_rfl) (by kernel_rfl) (by kernel_rfl) rfl ?_
    refine vcQ [[0,1,0],[0,1,1,1,1]] (lkL [(0,[0,1,2,4,5,6,9]),(1,[0,1,2,4,5,6,14]),(2,[0,1,4,5])]) (lkL [(2,[(4,ROrc.call (tup 0 (nth [])) [cells false 1 fun (x:Nat)=>ow true 5 m 1,cells false 1 fun (x:Nat)=>int i64 (most:Int),cells false 1 fun (x:Nat)=>am O,cells false 1 fun (x:Nat)=>fn 78 0 (nth []) 5 (nth [ref 0 0,ref 1 0,ref 2 0,ref 3 0,ref 4 0]),cells false 2 (nth [int i64 p.atoms,ad p.rules]),cells false (m*1) (aI L')] g)]),(3,[(8,ROrc.pcall (int u64 (↑(2^(O.l.getD k 0).toNat):Int))),(10,ROrc.callS (tup 0 (nth [])) [(2,cells false 1 fun (x:Nat)=>am O),(5,cells false (m*1) (aI L'))] g)])]) (fun Q=>(fun (u1:List AObj)=>(fun (u2:List AObj)=>(fun (u3:Int)=>(fun (u4:Int)=>(fun (u5:Bool)=>1<=1/\1<=1/\(u5=true->Wp Tryd.prog R 47 5 Rd.top (ae Tryd.prog 78) [0,1,0] (aq Tryd.prog R 47 5 Rd.top (ae Tryd.prog 78) Q [Kont.blk 0]) (St.mk [(0,int i64 u4),(1,int u64 (s:Int)),(2,ref 0 0),(4,ref 2 0),(5,ref 3 0),(6,ref 4 0),(9,AV.bool u5)] u2 g))/\(u5=false->1<=1/\(decide (u4<u3)=true->1<=1/\(-9223372036854775808<=u4+1/\u4+1<=9223372036854775807)/\(true=true/\Does Tryd.prog R 78 [int i64 (u4+1),int u64 (s:Int),ref 0 0,ref 1 0,ref 2 0,ref 3 0,ref 4 0] u2 g (ret (tup 0 (nth []))) u1 g)/\Tables.follows Tryd.prog.toTables Departure.mixedOrders=true/\1<=1/\(-9223372036854775808<=u4+1/\u4+1<=9223372036854775807)/\1<=1/\(0<=u4/\u4<u3)/\1<=1/\(∀(hp:List AObj) (g:R.σ),true=true/\Does Tryd.prog R 79 [ag O.l k] hp g (ret (int u64 (↑(2^(O.l.getD k 0).toNat):Int))) hp g)/\(true=true/\Does Tryd.prog R 78 [int i64 (u4+1),int u64 (IntKind.wrap u64 (↑(BitVec.toNat (BitVec.ofInt 64 (s:Int)|||BitVec.ofInt 64 (↑(2^(O.l.getD k 0).toNat):Int))):Int)),ref 0 0,ref 1 0,ref 2 0,ref 3 0,ref 4 0] u1 g (ret (tup 0 (nth []))) u1 g)/\Q AEx.normal (St.mk [] u1 g))/\(decide (u4<u3)=false->Wp Tryd.prog R 47 5 Rd.top (ae Tryd.prog 78) [0,1,1,1,1] (aq Tryd.prog R 47 5 Rd.top (ae Tryd.prog 78) Q [Kont.blk 0]) (St.mk [(0,int i64 u4),(1,int u64 (s:Int)),(2,ref 0 0),(4,ref 2 0),(5,ref 3 0),(6,ref 4 0),(14,AV.bool (decide (u4<u3)))] u2 g)))) ((↑0:Int)==(most:Int))) ((k:Int))) ((O.l.length:Int))) ([cells false 1 fun (x:Nat)=>fz Fz.nil 0 0 fun _ _=>any,cells false 1 fun (x:Nat)=>int i64 (most:Int),cells false 1 fun (x:Nat)=>fz O.2 1 (O.l.length) fun (i x:Nat)=>ag O.l i,cells false 1 fun (x:Nat)=>fn 78 0 (nth []) 5 (nth [ref 0 0,ref 1 0,ref 2 0,ref 3 0,ref 4 0]),cells false 2 (nth [int i64 p.atoms,ad p.rules])])) ([cells false 1 fun (x:Nat)=>ow true 5 m 1,cells false 1 fun (x:Nat)=>int i64 (most:Int),cells false 1 fun (x:Nat)=>fz O.2 1 (O.l.length) fun (i x:Nat)=>ag O.l i,cells false 1 fun (x:Nat)=>fn 78 0 (nth []) 5 (nth [ref 0 0,ref 1 0,ref 2 0,ref 3 0,ref 4 0]),cells false 2 (nth [int i64 p.atoms,ad p.rules]),cells false (m*1) fun (a:Nat)=>fz Fz.auto 1 ((ah (L'.getD a 0)).l.length) fun (i x:Nat)=>ag (ah (L'.getD a 0)).l i])) (fun _=>by kernel_rfl) ⟨by omega,by omega,fun hcc=>(nomatch (hz.symm.trans hcc)),fun _=>⟨by omega,fun _=>⟨by omega,by omega,⟨rfl,(i1 _ _)⟩,by kernel_rfl,by omega,by omega,by omega,by omega,by omega,(fun _ _=>⟨rfl,(ef _ _ (by omega) _ _)⟩),⟨rfl,(i2 _ _)⟩,?_⟩,fun hcc=>(nomatch (hb.symm.trans hcc))⟩⟩
    refine(ax (ba _ _ rfl trivial rfl rfl rfl) (Le.refl _))
   ·have i2:∀(R:Res) [Tab LT R] (g:R.σ),Does Tryd.prog R 78 [.int .i64 ((k:Int)+1),.int .u64 (IntKind.u64.wrap ((BitVec.ofInt 64 (s:Int)|||BitVec.ofInt 64 ((2^(O.l.getD k 0).toNat:Nat):Int)).toNat:Int)),.ref 0 0,.ref 1 0,.ref 2 0,.ref 3 0,.ref 4 0] [.cells false 1 (fun _=>.ow true 5 m 1),.cells false 1 (fun _=>.int .i64 most),.cells false 1 (fun _=>am O),.cells false 1 (fun _=>.fn 78 0 (nth []) 5 (nth [.ref 0 0,.ref 1 0,.ref 2 0,.ref 3 0,.ref 4 0])),.cells false 2 (nth [.int .i64 p.atoms,ad p.rules]),.cells false (m*1) (aI L)] g (.ret (.tup 0 (nth []))) [.cells false 1 (fun _=>.ow true 6 m' 1),.cells false 1 (fun _=>.int .i64 most),.cells false 1 (fun _=>am O),.cells false 1 (fun _=>.fn 78 0 (nth []) 5 (nth [.ref 0 0,.ref 1 0,.ref 2 0,.ref 3 0,.ref 4 0])),.cells false 2 (nth [.int .i64 p.atoms,ad p.rules]),.dead,.cells false (m'*1) (aI L')] g:=fun R _ g=>by rw[hoS];exact ih.ow R t m m' L L' g ht24 e hmL hmm h hm' hmm1
    refine aA (nt:=47) (rs:=[]) (k0:=5) (by kernel_rfl) (by kernel_rfl) (by kernel_rfl) rfl ?_
    refine vcQ [[0,1,0],[0,1,1,1,1]] (lkL [(0,[0,1,2,4,5,6,9]),(1,[0,1,2,4,5,6,14]),(2,[0,1,4,5])]) (lkL [(2,[(4,ROrc.call (tup 0 (nth [])) [cells false 1 fun (x:Nat)=>ow true 5 m 1,cells false 1 fun (x:Nat)=>int i64 (most:Int),cells false 1 fun (x:Nat)=>am O,cells false 1 fun (x:Nat)=>fn 78 0 (nth []) 5 (nth [ref 0 0,ref 1 0,ref 2 0,ref 3 0,ref 4 0]),cells false 2 (nth [int i64 p.atoms,ad p.rules]),cells false (m*1) (aI L)] g)]),(3,[(8,ROrc.pcall (int u64 (↑(2^(O.l.getD k 0).toNat):Int))),(10,ROrc.callN (tup 0 (nth [])) [(0,cells false 1 fun (x:Nat)=>ow true 6 m' 1),(2,cells false 1 fun (x:Nat)=>am O),(5,dead)] [cells false (m'*1) (aI L')] g)])]) (fun Q=>(fun (u1:List AObj)=>(fun (u2:List AObj)=>(fun (u3:List AObj)=>(fun (u4:Int)=>(fun (u5:Int)=>(fun (u6:Bool)=>1<=1/\1<=1/\(u6=true->Wp Tryd.prog R 47 5 Rd.top (ae Tryd.prog 78) [0,1,0] (aq Tryd.prog R 47 5 Rd.top (ae Tryd.prog 78) Q [Kont.blk 0]) (St.mk [(0,int i64 u5),(1,int u64 (s:Int)),(2,ref 0 0),(4,ref 2 0),(5,ref 3 0),(6,ref 4 0),(9,AV.bool u6)] u1 g))/\(u6=false->1<=1/\(decide (u5<u4)=true->1<=1/\(-9223372036854775808<=u5+1/\u5+1<=9223372036854775807)/\(true=true/\Does Tryd.prog R 78 [int i64 (u5+1),int u64 (s:Int),ref 0 0,ref 1 0,ref 2 0,ref 3 0,ref 4 0] u1 g (ret (tup 0 (nth []))) u3 g)/\Tables.follows Tryd.prog.toTables Departure.mixedOrders=true/\1<=1/\(-9223372036854775808<=u5+1/\u5+1<=9223372036854775807)/\1<=1/\(0<=u5/\u5<u4)/\1<=1/\(∀(hp:List AObj) (g:R.σ),true=true/\Does Tryd.prog R 79 [ag O.l k] hp g (ret (int u64 (↑(2^(O.l.getD k 0).toNat):Int))) hp g)/\(true=true/\Does Tryd.prog R 78 [int i64 (u5+1),int u64 (IntKind.wrap u64 (↑(BitVec.toNat (BitVec.ofInt 64 (s:Int)|||BitVec.ofInt 64 (↑(2^(O.l.getD k 0).toNat):Int))):Int)),ref 0 0,ref 1 0,ref 2 0,ref 3 0,ref 4 0] u3 g (ret (tup 0 (nth []))) u2 g)/\Q AEx.normal (St.mk [] u2 g))/\(decide (u5<u4)=false->Wp Tryd.prog R 47 5 Rd.top (ae Tryd.prog 78) [0,1,1,1,1] (aq Tryd.prog R 47 5 Rd.top (ae Tryd.prog 78) Q [Kont.blk 0]) (St.mk [(0,int i64 u5),(1,int u64 (s:Int)),(2,ref 0 0),(4,ref 2 0),(5,ref 3 0),(6,ref 4 0),(14,AV.bool (decide (u5<u4)))] u1 g)))) ((↑0:Int)==(most:Int))) ((k:Int))) ((O.l.length:Int))) ([cells false 1 fun (x:Nat)=>ow true 5 m 1,cells false 1 fun (x:Nat)=>int i64 (most:Int),cells false 1 fun (x:Nat)=>fz O.2 1 (O.l.length) fun (i x:Nat)=>ag O.l i,cells false 1 fun (x:Nat)=>fn 78 0 (nth []) 5 (nth [ref 0 0,ref 1 0,ref 2 0,ref 3 0,ref 4 0]),cells false 2 (nth [int i64 p.atoms,ad p.rules]),cells false (m*1) fun (a:Nat)=>fz Fz.auto 1 ((ah (L.getD a 0)).l.length) fun (i x:Nat)=>ag (ah (L.getD a 0)).l i])) ([cells false 1 fun (x:Nat)=>ow true 6 m' 1,cells false 1 fun (x:Nat)=>int i64 (most:Int),cells false 1 fun (x:Nat)=>fz O.2 1 (O.l.length) fun (i x:Nat)=>ag O.l i,cells false 1 fun (x:Nat)=>fn 78 0 (nth []) 5 (nth [ref 0 0,ref 1 0,ref 2 0,ref 3 0,ref 4 0]),cells false 2 (nth [int i64 p.atoms,ad p.rules]),dead,cells false (m'*1) fun (a:Nat)=>fz Fz.auto 1 ((ah (L'.getD a 0)).l.length) fun (i x:Nat)=>ag (ah (L'.getD a 0)).l i])) ([cells false 1 fun (x:Nat)=>fz Fz.nil 0 0 fun _ _=>any,cells false 1 fun (x:Nat)=>int i64 (most:Int),cells false 1 fun (x:Nat)=>fz O.2 1 (O.l.length) fun (i x:Nat)=>ag O.l i,cells false 1 fun (x:Nat)=>fn 78 0 (nth []) 5 (nth [ref 0 0,ref 1 0,ref 2 0,ref 3 0,ref 4 0]),cells false 2 (nth [int i64 p.atoms,ad p.rules])])) (fun _=>by kernel_rfl) ⟨by omega,by omega,fun hcc=>(nomatch (hz.symm.trans hcc)),fun _=>⟨by omega,fun _=>⟨by omega,by omega,⟨rfl,(i1 _ _)⟩,by kernel_rfl,by omega,by omega,by omega,by omega,by omega,(fun _ _=>⟨rfl,(ef _ _ (by omega) _ _)⟩),⟨rfl,(i2 _ _)⟩,?_⟩,fun hcc=>(nomatch (hb.symm.trans hcc))⟩⟩
    refine lb (.tup 0 (nth [])) _ rfl trivial ?_
    refine bi [0,1,2,3,4,6] 7 ?_ ?_ ?_ ?_ ?_ ?_ ?_
    ·rfl
    ·rfl
    ·rfl
    ·rfl
    ·rfl
    ·exact⟨Le.refl _,trivial⟩
    ·exact⟨⟨rfl,Nat.le_refl _,fun j hj=>Le.refl _⟩,LeO.refl _,LeO.refl _,⟨rfl,Nat.le_refl _,fun j hj=>lc⟩,⟨rfl,Nat.le_refl _,fun j hj=>match j,hj with|0,_=>Le.refl _|1,_=>az (by exact trivial)⟩,⟨rfl,Nat.le_refl _,fun j hj=>Le.refl _⟩,trivial⟩
 ·intro R _ s m L g hs hL hmL hmm h
  rw[e0] at h
  have h0:0<m:=by rw[hmL];exact List.length_pos_iff.2 hL
  by_cases hf:m=most
  ·have hz:((m:Int)==(most:Int))=true:=by rw[beq_iff_eq];omega
   refine aA (nt:=47) (rs:=[]) (k0:=6) (by kernel_rfl) (by kernel_rfl) (by kernel_rfl) rfl ?_
   refine vcQ [[0,1,1]] (lkL [(0,[0,1,2,4,5,6,9])]) (fun _=>[]) (fun Q=>(fun (u1:St R.σ)=>1<=1/\1<=1/\(((m:Int)==(most:Int))=true->Q AEx.normal u1)/\(((m:Int)==(most:Int))=false->Wp Tryd.prog R 47 6 Rd.top (ae Tryd.prog 78) [0,1,1] (aq Tryd.prog R 47 6 Rd.top (ae Tryd.prog 78) Q [Kont.blk 0]) u1)) (St.mk [(0,int i64 (k:Int)),(1,int u64 (s:Int)),(2,ref 0 0),(4,ref 2 0),(5,ref 3 0),(6,ref 4 0),(9,AV.bool ((m:Int)==(most:Int)))] [cells false 1 fun (x:Nat)=>ow true 5 m 1,cells false 1 fun (x:Nat)=>int i64 (most:Int),cells false 1 fun (x:Nat)=>fz O.2 1 (O.l.length) fun (i x:Nat)=>ag O.l i,cells false 1 fun (x:Nat)=>fn 78 0 (nth []) 5 (nth [ref 0 0,ref 1 0,ref 2 0,ref 3 0,ref 4 0]),cells false 2 (nth [int i64 p.atoms,ad p.rules]),cells false (m*1) fun (a:Nat)=>fz Fz.auto 1 ((ah (L.getD a 0)).l.length) fun (i x:Nat)=>ag (ah (L.getD a 0)).l i] g)) (fun _=>by kernel_rfl) ⟨by omega,by omega,fun _=>?_,fun hcc=>(nomatch (hz.symm.trans hcc))⟩
   refine(ax (ba _ _ rfl trivial rfl rfl rfl) (Le.refl _))
  ·have hz:((m:Int)==(most:Int))=false:=by rw[beq_eq_false_iff_ne];omega
   rw[if_neg (by omega)] at h
   obtain⟨t,ht⟩:∃t,s|||2^(O.l.getD k 0).toNat=t:=⟨_,rfl⟩
   have ht24:t<2^24:=by rw[<-ht];exact hor24 s hs
   have hoS:=(hor s hs).trans (congrArg (fun n:Nat=>(n:Int)) ht)
   rw[ht] at h
   have hlen:=ep (p:=p) (most:=most) (r:=r) (s:=s) (out:=L) (by omega)
   have hlen2:=ep (p:=p) (most:=most) (r:=r) (s:=t) (out:=stF p most r s L) hlen.2.1
   rw[h] at hlen2
   have hL1:=hlen.2.2 (by omega)
   rw[hL1] at h
   have i1:=fun (R:Res) [Tab LT R] (g:R.σ)=>ih.on R s m L g hs hL hmL hmm hL1
   have i2:∀(R:Res) [Tab LT R] (g:R.σ),Does Tryd.prog R 78 [.int .i64 ((k:Int)+1),.int .u64 (IntKind.u64.wrap ((BitVec.ofInt 64 (s:Int)|||BitVec.ofInt 64 ((2^(O.l.getD k 0).toNat:Nat):Int)).toNat:Int)),.ref 0 0,.ref 1 0,.ref 2 0,.ref 3 0,.ref 4 0] [.cells false 1 (fun _=>.ow true 5 m 1),.cells false 1 (fun _=>.int .i64 most),.cells false 1 (fun _=>am O),.cells false 1 (fun _=>.fn 78 0 (nth []) 5 (nth [.ref 0 0,.ref 1 0,.ref 2 0,.ref 3 0,.ref 4 0])),.cells false 2 (nth [.int .i64 p.atoms,ad p.rules]),.cells false (m*1) (aI L)] g (.ret (.tup 0 (nth []))) [.cells false 1 (fun _=>.ow true 5 m 1),.cells false 1 (fun _=>.int .i64 most),.cells false 1 (fun _=>am O),.cells false 1 (fun _=>.fn 78 0 (nth []) 5 (nth [.ref 0 0,.ref 1 0,.ref 2 0,.ref 3 0,.ref 4 0])),.cells false 2 (nth [.int .i64 p.atoms,ad p.rules]),.cells false (m*1) (aI L)] g:=fun R _ g=>by rw[hoS];exact ih.on R t m L g ht24 hL hmL hmm h
   refine aA (nt:=47) (rs:=[]) (k0:=6) (by kernel_rfl) (by kernel_rfl) (by kernel_rfl) rfl ?_
   refine vcQ [[0,1,0],[0,1,1,1,1]] (lkL [(0,[0,1,2,4,5,6,9]),(1,[0,1,2,4,5,6,14]),(2,[0,1,4,5])]) (lkL [(2,[(4,ROrc.call (tup 0 (nth [])) [cells false 1 fun (x:Nat)=>ow true 5 m 1,cells false 1 fun (x:Nat)=>int i64 (most:Int),cells false 1 fun (x:Nat)=>am O,cells false 1 fun (x:Nat)=>fn 78 0 (nth []) 5 (nth [ref 0 0,ref 1 0,ref 2 0,ref 3 0,ref 4 0]),cells false 2 (nth [int i64 p.atoms,ad p.rules]),cells false (m*1) (aI L)] g)]),(3,[(8,ROrc.pcall (int u64 (↑(2^(O.l.getD k 0).toNat):Int))),(10,ROrc.callS (tup 0 (nth [])) [(2,cells false 1 fun (x:Nat)=>am O),(5,cells false (m*1) (aI L))] g)])]) (fun Q=>(fun (u1:List AObj)=>(fun (u2:Int)=>(fun (u3:Int)=>(fun (u4:Bool)=>1<=1/\1<=1/\(u4=true->Wp Tryd.prog R 47 6 Rd.top (ae Tryd.prog 78) [0,1,0] (aq Tryd.prog R 47 6 Rd.top (ae Tryd.prog 78) Q [Kont.blk 0]) (St.mk [(0,int i64 u3),(1,int u64 (s:Int)),(2,ref 0 0),(4,ref 2 0),(5,ref 3 0),(6,ref 4 0),(9,AV.bool u4)] u1 g))/\(u4=false->1<=1/\(decide (u3<u2)=true->1<=1/\(-9223372036854775808<=u3+1/\u3+1<=9223372036854775807)/\(true=true/\Does Tryd.prog R 78 [int i64 (u3+1),int u64 (s:Int),ref 0 0,ref 1 0,ref 2 0,ref 3 0,ref 4 0] u1 g (ret (tup 0 (nth []))) u1 g)/\Tables.follows Tryd.prog.toTables Departure.mixedOrders=true/\1<=1/\(-9223372036854775808<=u3+1/\u3+1<=9223372036854775807)/\1<=1/\(0<=u3/\u3<u2)/\1<=1/\(∀(hp:List AObj) (g:R.σ),true=true/\Does Tryd.prog R 79 [ag O.l k] hp g (ret (int u64 (↑(2^(O.l.getD k 0).toNat):Int))) hp g)/\(true=true/\Does Tryd.prog R 78 [int i64 (u3+1),int u64 (IntKind.wrap u64 (↑(BitVec.toNat (BitVec.ofInt 64 (s:Int)|||BitVec.ofInt 64 (↑(2^(O.l.getD k 0).toNat):Int))):Int)),ref 0 0,ref 1 0,ref 2 0,ref 3 0,ref 4 0] u1 g (ret (tup 0 (nth []))) u1 g)/\Q AEx.normal (St.mk [] u1 g))/\(decide (u3<u2)=false->Wp Tryd.prog R 47 6 Rd.top (ae Tryd.prog 78) [0,1,1,1,1] (aq Tryd.prog R 47 6 Rd.top (ae Tryd.prog 78) Q [Kont.blk 0]) (St.mk [(0,int i64 u3),(1,int u64 (s:Int)),(2,ref 0 0),(4,ref 2 0),(5,ref 3 0),(6,ref 4 0),(14,AV.bool (decide (u3<u2)))] u1 g)))) ((m:Int)==(most:Int))) ((k:Int))) ((O.l.length:Int))) ([cells false 1 fun (x:Nat)=>ow true 5 m 1,cells false 1 fun (x:Nat)=>int i64 (most:Int),cells false 1 fun (x:Nat)=>fz O.2 1 (O.l.length) fun (i x:Nat)=>ag O.l i,cells false 1 fun (x:Nat)=>fn 78 0 (nth []) 5 (nth [ref 0 0,ref 1 0,ref 2 0,ref 3 0,ref 4 0]),cells false 2 (nth [int i64 p.atoms,ad p.rules]),cells false (m*1) fun (a:Nat)=>fz Fz.auto 1 ((ah (L.getD a 0)).l.length) fun (i x:Nat)=>ag (ah (L.getD a 0)).l i])) (fun _=>by kernel_rfl) ⟨by omega,by omega,fun hcc=>(nomatch (hz.symm.trans hcc)),fun _=>⟨by omega,fun _=>⟨by omega,by omega,⟨rfl,(i1 _ _)⟩,by kernel_rfl,by omega,by omega,by omega,by omega,by omega,(fun _ _=>⟨rfl,(ef _ _ (by omega) _ _)⟩),⟨rfl,(i2 _ _)⟩,?_⟩,fun hcc=>(nomatch (hb.symm.trans hcc))⟩⟩
   refine(ax (ba _ _ rfl trivial rfl rfl rfl) (Le.refl _))
 ·intro R _ s m m' L L' g hs hL hmL hmm h hm' hne
  rw[e0] at h
  have h0:0<m:=by rw[hmL];exact List.length_pos_iff.2 hL
  have hf:¬m=most:=fun e=>by
   rw[if_pos (by omega)] at h
   subst h
   omega
  have hz:((m:Int)==(most:Int))=false:=by rw[beq_eq_false_iff_ne];omega
  rw[if_neg (by omega)] at h
  obtain⟨t,ht⟩:∃t,s|||2^(O.l.getD k 0).toNat=t:=⟨_,rfl⟩
  have ht24:t<2^24:=by rw[<-ht];exact hor24 s hs
  have hoS:=(hor s hs).trans (congrArg (fun n:Nat=>(n:Int)) ht)
  rw[ht] at h
  have hlen:=ep (p:=p) (most:=most) (r:=r) (s:=s) (out:=L) (by omega)
  obtain⟨L1,hL1⟩:∃L1,stF p most r s L=L1:=⟨_,rfl⟩
  obtain⟨m1,hm1⟩:∃m1,m1=L1.length:=⟨_,rfl⟩
  rw[hL1] at h hlen
  have hlen2:=ep (p:=p) (most:=most) (r:=r) (s:=t) (out:=L1) hlen.2.1
  rw[h] at hlen2
  have h01:0<m1:=by omega
  have h0':0<m':=by omega
  have hmm1:m1<=most:=by omega
  have hmm':m'<=most:=by omega
  have hL1n:L1≠[]:=List.length_pos_iff.1 (by omega)
  by_cases e1:m=m1
  ·have hLL:L1=L:=hlen.2.2 (by omega)
   subst hLL
   have i1:=fun (R:Res) [Tab LT R] (g:R.σ)=>ih.on R s m L1 g hs hL hmL hmm hL1
   have i2:∀(R:Res) [Tab LT R] (g:R.σ),Does Tryd.prog R 78 [.int .i64 ((k:Int)+1),.int .u64 (IntKind.u64.wrap ((BitVec.ofInt 64 (s:Int)|||BitVec.ofInt 64 ((2^(O.l.getD k 0).toNat:Nat):Int)).toNat:Int)),.ref 0 0,.ref 1 0,.ref 2 0,.ref 3 0,.ref 4 0] [.cells false 1 (fun _=>.ow true 5 m 1),.cells false 1 (fun _=>.int .i64 most),.cells false 1 (fun _=>am O),.cells false 1 (fun _=>.fn 78 0 (nth []) 5 (nth [.ref 0 0,.ref 1 0,.ref 2 0,.ref 3 0,.ref 4 0])),.cells false 2 (nth [.int .i64 p.atoms,ad p.rules]),.cells false (m*1) (aI L1)] g (.ret (.tup 0 (nth []))) [.cells false 1 (fun _=>.ow true 6 m' 1),.cells false 1 (fun _=>.int .i64 most),.cells false 1 (fun _=>am O),.cells false 1 (fun _=>.fn 78 0 (nth []) 5 (nth [.ref 0 0,.ref 1 0,.ref 2 0,.ref 3 0,.ref 4 0])),.cells false 2 (nth [.int .i64 p.atoms,ad p.rules]),.dead,.cells false (m'*1) (aI L')] g:=fun R _ g=>by rw[hoS];exact ih.ow R t m m' L1 L' g ht24 hL hmL hmm h hm' hne
   refine aA (nt:=47) (rs:=[]) (k0:=6) (by kernel_rfl) (by kernel_rfl) (by kernel_rfl) rfl ?_
   refine vcQ [[0,1,0],[0,1,1,1,1]] (lkL [(0,[0,1,2,4,5,6,9]),(1,[0,1,2,4,5,6,14]),(2,[0,1,4,5])]) (lkL [(2,[(4,ROrc.call (tup 0 (nth [])) [cells false 1 fun (x:Nat)=>ow true 5 m 1,cells false 1 fun (x:Nat)=>int i64 (most:Int),cells false 1 fun (x:Nat)=>am O,cells false 1 fun (x:Nat)=>fn 78 0 (nth []) 5 (nth [ref 0 0,ref 1 0,ref 2 0,ref 3 0,ref 4 0]),cells false 2 (nth [int i64 p.atoms,ad p.rules]),cells false (m*1) (aI L1)] g)]),(3,[(8,ROrc.pcall (int u64 (↑(2^(O.l.getD k 0).toNat):Int))),(10,ROrc.callN (tup 0 (nth [])) [(0,cells false 1 fun (x:Nat)=>ow true 6 m' 1),(2,cells false 1 fun (x:Nat)=>am O),(5,dead)] [cells false (m'*1) (aI L')] g)])]) (fun Q=>(fun (u1:List AObj)=>(fun (u2:List AObj)=>(fun (u3:Int)=>(fun (u4:Int)=>(fun (u5:Bool)=>1<=1/\1<=1/\(u5=true->Wp Tryd.prog R 47 6 Rd.top (ae Tryd.prog 78) [0,1,0] (aq Tryd.prog R 47 6 Rd.top (ae Tryd.prog 78) Q [Kont.blk 0]) (St.mk [(0,int i64 u4),(1,int u64 (s:Int)),(2,ref 0 0),(4,ref 2 0),(5,ref 3 0),(6,ref 4 0),(9,AV.bool u5)] u1 g))/\(u5=false->1<=1/\(decide (u4<u3)=true->1<=1/\(-9223372036854775808<=u4+1/\u4+1<=9223372036854775807)/\(true=true/\Does Tryd.prog R 78 [int i64 (u4+1),int u64 (s:Int),ref 0 0,ref 1 0,ref 2 0,ref 3 0,ref 4 0] u1 g (ret (tup 0 (nth []))) u1 g)/\Tables.follows Tryd.prog.toTables Departure.mixedOrders=true/\1<=1/\(-9223372036854775808<=u4+1/\u4+1<=9223372036854775807)/\1<=1/\(0<=u4/\u4<u3)/\1<=1/\(∀(hp:List AObj) (g:R.σ),true=true/\Does Tryd.prog R 79 [ag O.l k] hp g (ret (int u64 (↑(2^(O.l.getD k 0).toNat):Int))) hp g)/\(true=true/\Does Tryd.prog R 78 [int i64 (u4+1),int u64 (IntKind.wrap u64 (↑(BitVec.toNat (BitVec.ofInt 64 (s:Int)|||BitVec.ofInt 64 (↑(2^(O.l.getD k 0).toNat):Int))):Int)),ref 0 0,ref 1 0,ref 2 0,ref 3 0,ref 4 0] u1 g (ret (tup 0 (nth []))) u2 g)/\Q AEx.normal (St.mk [] u2 g))/\(decide (u4<u3)=false->Wp Tryd.prog R 47 6 Rd.top (ae Tryd.prog 78) [0,1,1,1,1] (aq Tryd.prog R 47 6 Rd.top (ae Tryd.prog 78) Q [Kont.blk 0]) (St.mk [(0,int i64 u4),(1,int u64 (s:Int)),(2,ref 0 0),(4,ref 2 0),(5,ref 3 0),(6,ref 4 0),(14,AV.bool (decide (u4<u3)))] u1 g)))) ((m:Int)==(most:Int))) ((k:Int))) ((O.l.length:Int))) ([cells false 1 fun (x:Nat)=>ow true 6 m' 1,cells false 1 fun (x:Nat)=>int i64 (most:Int),cells false 1 fun (x:Nat)=>fz O.2 1 (O.l.length) fun (i x:Nat)=>ag O.l i,cells false 1 fun (x:Nat)=>fn 78 0 (nth []) 5 (nth [ref 0 0,ref 1 0,ref 2 0,ref 3 0,ref 4 0]),cells false 2 (nth [int i64 p.atoms,ad p.rules]),dead,cells false (m'*1) fun (a:Nat)=>fz Fz.auto 1 ((ah (L'.getD a 0)).l.length) fun (i x:Nat)=>ag (ah (L'.getD a 0)).l i])) ([cells false 1 fun (x:Nat)=>ow true 5 m 1,cells false 1 fun (x:Nat)=>int i64 (most:Int),cells false 1 fun (x:Nat)=>fz O.2 1 (O.l.length) fun (i x:Nat)=>ag O.l i,cells false 1 fun (x:Nat)=>fn 78 0 (nth []) 5 (nth [ref 0 0,ref 1 0,ref 2 0,ref 3 0,ref 4 0]),cells false 2 (nth [int i64 p.atoms,ad p.rules]),cells false (m*1) fun (a:Nat)=>fz Fz.auto 1 ((ah (L1.getD a 0)).l.length) fun (i x:Nat)=>ag (ah (L1.getD a 0)).l i])) (fun _=>by kernel_rfl) ⟨by omega,by omega,fun hcc=>(nomatch (hz.symm.trans hcc)),fun _=>⟨by omega,fun _=>⟨by omega,by omega,⟨rfl,(i1 _ _)⟩,by kernel_rfl,by omega,by omega,by omega,by omega,by omega,(fun _ _=>⟨rfl,(ef _ _ (by omega) _ _)⟩),⟨rfl,(i2 _ _)⟩,?_⟩,fun hcc=>(nomatch (hb.symm.trans hcc))⟩⟩
   refine(ax (ba _ _ rfl trivial rfl rfl rfl) (Le.refl _))
  ·have i1:=fun (R:Res) [Tab LT R] (g:R.σ)=>ih.ow R s m m1 L L1 g hs hL hmL hmm hL1 hm1 e1
   by_cases e2:m1=m'
   ·have hLL:L'=L1:=hlen2.2.2 (by omega)
    subst hLL
    subst e2
    have i2:∀(R:Res) [Tab LT R] (g:R.σ),Does Tryd.prog R 78 [.int .i64 ((k:Int)+1),.int .u64 (IntKind.u64.wrap ((BitVec.ofInt 64 (s:Int)|||BitVec.ofInt 64 ((2^(O.l.getD k 0).toNat:Nat):Int)).toNat:Int)),.ref 0 0,.ref 1 0,.ref 2 0,.ref 3 0,.ref 4 0] [.cells false 1 (fun _=>.ow true 5 m1 1),.cells false 1 (fun _=>.int .i64 most),.cells false 1 (fun _=>am O),.cells false 1 (fun _=>.fn 78 0 (nth []) 5 (nth [.ref 0 0,.ref 1 0,.ref 2 0,.ref 3 0,.ref 4 0])),.cells false 2 (nth [.int .i64 p.atoms,ad p.rules]),.cells false (m1*1) (aI L')] g (.ret (.tup 0 (nth []))) [.cells false 1 (fun _=>.ow true 5 m1 1),.cells false 1 (fun _=>.int .i64 most),.cells false 1 (fun _=>am O),.cells false 1 (fun _=>.fn 78 0 (nth []) 5 (nth [.ref 0 0,.ref 1 0,.ref 2 0,.ref 3 0,.ref 4 0])),.cells false 2 (nth [.int .i64 p.atoms,ad p.rules]),.cells false (m1*1) (aI L')] g:=fun R _ g=>by rw[hoS];exact ih.on R t m1 L' g ht24 hL1n hm1 hmm1 h
    refine aA (nt:=47) (rs:=[]) (k0:=6) (by kernel_rfl) (by kernel_rfl) (by kernel_rfl) rfl ?_
    refine vcQ [[0,1,0],[0,1,1,1,1]] (lkL [(0,[0,1,2,4,5,6,9]),(1,[0,1,2,4,5,6,14]),(2,[0,1,4,5])]) (lkL [(2,[(4,ROrc.call (tup 0 (nth [])) [cells false 1 fun (x:Nat)=>ow true 6 m1 1,cells false 1 fun (x:Nat)=>int i64 (most:Int),cells false 1 fun (x:Nat)=>am O,cells false 1 fun (x:Nat)=>fn 78 0 (nth []) 5 (nth [ref 0 0,ref 1 0,ref 2 0,ref 3 0,ref 4 0]),cells false 2 (nth [int i64 p.atoms,ad p.rules]),dead,cells false (m1*1) (aI L')] g)]),(3,[(8,ROrc.pcall (int u64 (↑(2^(O.l.getD k 0).toNat):Int))),(10,ROrc.kcall (tup 0 (nth [])))])]) (fun Q=>(fun (u1:List AObj)=>(fun (u2:List AObj)=>(fun (u3:Int)=>(fun (u4:Int)=>(fun (u5:Bool)=>1<=1/\1<=1/\(u5=true->Wp Tryd.prog R 47 6 Rd.top (ae Tryd.prog 78) [0,1,0] (aq Tryd.prog R 47 6 Rd.top (ae Tryd.prog 78) Q [Kont.blk 0]) (St.mk [(0,int i64 u4),(1,int u64 (s:Int)),(2,ref 0 0),(4,ref 2 0),(5,ref 3 0),(6,ref 4 0),(9,AV.bool u5)] u2 g))/\(u5=false->1<=1/\(decide (u4<u3)=true->1<=1/\(-9223372036854775808<=u4+1/\u4+1<=9223372036854775807)/\(true=true/\Does Tryd.prog R 78 [int i64 (u4+1),int u64 (s:Int),ref 0 0,ref 1 0,ref 2 0,ref 3 0,ref 4 0] u2 g (ret (tup 0 (nth []))) u1 g)/\Tables.follows Tryd.prog.toTables Departure.mixedOrders=true/\1<=1/\(-9223372036854775808<=u4+1/\u4+1<=9223372036854775807)/\1<=1/\(0<=u4/\u4<u3)/\1<=1/\(∀(hp:List AObj) (g:R.σ),true=true/\Does Tryd.prog R 79 [ag O.l k] hp g (ret (int u64 (↑(2^(O.l.getD k 0).toNat):Int))) hp g)/\(true=true/\Does Tryd.prog R 78 [int i64 (u4+1),int u64 (IntKind.wrap u64 (↑(BitVec.toNat (BitVec.ofInt 64 (s:Int)|||BitVec.ofInt 64 (↑(2^(O.l.getD k 0).toNat):Int))):Int)),ref 0 0,ref 1 0,ref 2 0,ref 3 0,ref 4 0] u1 g (ret (tup 0 (nth []))) u1 g)/\Q AEx.normal (St.mk [] u1 g))/\(decide (u4<u3)=false->Wp Tryd.prog R 47 6 Rd.top (ae Tryd.prog 78) [0,1,1,1,1] (aq Tryd.prog R 47 6 Rd.top (ae Tryd.prog 78) Q [Kont.blk 0]) (St.mk [(0,int i64 u4),(1,int u64 (s:Int)),(2,ref 0 0),(4,ref 2 0),(5,ref 3 0),(6,ref 4 0),(14,AV.bool (decide (u4<u3)))] u2 g)))) ((m:Int)==(most:Int))) ((k:Int))) ((O.l.length:Int))) ([cells false 1 fun (x:Nat)=>ow true 5 m 1,cells false 1 fun (x:Nat)=>int i64 (most:Int),cells false 1 fun (x:Nat)=>fz O.2 1 (O.l.length) fun (i x:Nat)=>ag O.l i,cells false 1 fun (x:Nat)=>fn 78 0 (nth []) 5 (nth [ref 0 0,ref 1 0,ref 2 0,ref 3 0,ref 4 0]),cells false 2 (nth [int i64 p.atoms,ad p.rules]),cells false (m*1) fun (a:Nat)=>fz Fz.auto 1 ((ah (L.getD a 0)).l.length) fun (i x:Nat)=>ag (ah (L.getD a 0)).l i])) ([cells false 1 fun (x:Nat)=>ow true 6 m1 1,cells false 1 fun (x:Nat)=>int i64 (most:Int),cells false 1 fun (x:Nat)=>fz O.2 1 (O.l.length) fun (i x:Nat)=>ag O.l i,cells false 1 fun (x:Nat)=>fn 78 0 (nth []) 5 (nth [ref 0 0,ref 1 0,ref 2 0,ref 3 0,ref 4 0]),cells false 2 (nth [int i64 p.atoms,ad p.rules]),dead,cells false (m1*1) fun (a:Nat)=>fz Fz.auto 1 ((ah (L'.getD a 0)).l.length) fun (i x:Nat)=>ag (ah (L'.getD a 0)).l i])) (fun _=>by kernel_rfl) ⟨by omega,by omega,fun hcc=>(nomatch (hz.symm.trans hcc)),fun _=>⟨by omega,fun _=>⟨by omega,by omega,⟨rfl,(i1 _ _)⟩,by kernel_rfl,by omega,by omega,by omega,by omega,by omega,(fun _ _=>⟨rfl,(ef _ _ (by omega) _ _)⟩),⟨rfl,(a9 (T:=LT) inferInstance [0,1,2,3,4,6] 7 (fun R _ g=>i2 R g) rfl rfl rfl (by exact⟨⟨rfl,Nat.le_refl _,fun j hj=>match j,hj with|0,_=>(Le.refl _) ⟩,⟨rfl,Nat.le_refl _,fun j hj=>match j,hj with|0,_=>(Le.refl _) ⟩,⟨rfl,Nat.le_refl _,fun j hj=>match j,hj with|0,_=>(Le.refl _) ⟩,⟨rfl,Nat.le_refl _,fun j hj=>match j,hj with|0,_=>(Le.fn (fun i hi=>absurd hi (by omega)) (fun i hi=>match i,hi with|0,_=>(Le.refl _)|1,_=>(Le.refl _)|2,_=>(Le.refl _)|3,_=>(Le.refl _)|4,_=>(Le.refl _) )) ⟩,⟨rfl,Nat.le_refl _,fun j hj=>match j,hj with|0,_=>(Le.refl _)|1,_=>(Le.refl _) ⟩,⟨rfl,Nat.le_refl _,fun j hj=>(by first|exact az (by first|exact trivial|apply fX)|exact Le.of_eq (jt rfl).symm)⟩,trivial⟩) (by exact⟨by omega,by omega,by omega,by omega,by omega,by omega,trivial⟩) (by exact⟨az (by exact trivial),az (by exact trivial),Le.refl _,Le.refl _,Le.refl _,Le.refl _,Le.refl _,trivial⟩) (by exact aC (by exact trivial)) (by exact⟨⟨rfl,Nat.le_refl _,fun j hj=>match j,hj with|0,_=>(Le.refl _) ⟩,⟨rfl,Nat.le_refl _,fun j hj=>match j,hj with|0,_=>(Le.refl _) ⟩,⟨rfl,Nat.le_refl _,fun j hj=>match j,hj with|0,_=>(Le.refl _) ⟩,⟨rfl,Nat.le_refl _,fun j hj=>match j,hj with|0,_=>(Le.fn (fun i hi=>absurd hi (by omega)) (fun i hi=>match i,hi with|0,_=>(Le.refl _)|1,_=>(Le.refl _)|2,_=>(Le.refl _)|3,_=>(Le.refl _)|4,_=>(Le.refl _) )) ⟩,⟨rfl,Nat.le_refl _,fun j hj=>match j,hj with|0,_=>(Le.refl _)|1,_=>(Le.refl _) ⟩,trivial,⟨rfl,Nat.le_refl _,fun j hj=>(by first|exact aC (by first|exact trivial|apply fX)|exact Le.of_eq (jt rfl))⟩,trivial⟩))⟩,?_⟩,fun hcc=>(nomatch (hb.symm.trans hcc))⟩⟩
    refine(ax (ba _ _ rfl trivial rfl rfl rfl) (Le.refl _))
   ·have i2:∀(R:Res) [Tab LT R] (g:R.σ),Does Tryd.prog R 78 [.int .i64 ((k:Int)+1),.int .u64 (IntKind.u64.wrap ((BitVec.ofInt 64 (s:Int)|||BitVec.ofInt 64 ((2^(O.l.getD k 0).toNat:Nat):Int)).toNat:Int)),.ref 0 0,.ref 1 0,.ref 2 0,.ref 3 0,.ref 4 0] [.cells false 1 (fun _=>.ow true 5 m1 1),.cells false 1 (fun _=>.int .i64 most),.cells false 1 (fun _=>am O),.cells false 1 (fun _=>.fn 78 0 (nth []) 5 (nth [.ref 0 0,.ref 1 0,.ref 2 0,.ref 3 0,.ref 4 0])),.cells false 2 (nth [.int .i64 p.atoms,ad p.rules]),.cells false (m1*1) (aI L1)] g (.ret (.tup 0 (nth []))) [.cells false 1 (fun _=>.ow true 6 m' 1),.cells false 1 (fun _=>.int .i64 most),.cells false 1 (fun _=>am O),.cells false 1 (fun _=>.fn 78 0 (nth []) 5 (nth [.ref 0 0,.ref 1 0,.ref 2 0,.ref 3 0,.ref 4 0])),.cells false 2 (nth [.int .i64 p.atoms,ad p.rules]),.dead,.cells false (m'*1) (aI L')] g:=fun R _ g=>by rw[hoS];exact ih.ow R t m1 m' L1 L' g ht24 hL1n hm1 hmm1 h hm' e2
    refine aA (nt:=47) (rs:=[]) (k0:=6) (by kernel_rfl) (by kernel_rfl) (by kernel_rfl) rfl ?_
    refine vcQ [[0,1,0],[0,1,1,1,1]] (lkL [(0,[0,1,2,4,5,6,9]),(1,[0,1,2,4,5,6,14]),(2,[0,1,4,5])]) (lkL [(2,[(4,ROrc.call (tup 0 (nth [])) [cells false 1 fun (x:Nat)=>ow true 6 m1 1,cells false 1 fun (x:Nat)=>int i64 (most:Int),cells false 1 fun (x:Nat)=>am O,cells false 1 fun (x:Nat)=>fn 78 0 (nth []) 5 (nth [ref 0 0,ref 1 0,ref 2 0,ref 3 0,ref 4 0]),cells false 2 (nth [int i64 p.atoms,ad p.rules]),dead,cells false (m1*1) (aI L1)] g)]),(3,[(8,ROrc.pcall (int u64 (↑(2^(O.l.getD k 0).toNat):Int))),(10,ROrc.callN (tup 0 (nth [])) [(0,cells false 1 fun (j:Nat)=>ow true 7 m' 1),(6,dead)] [cells false (m'*1) (aI L')] g)])]) (fun Q=>(fun (u1:List AObj)=>(fun (u2:List AObj)=>(fun (u3:List AObj)=>(fun (u4:Int)=>(fun (u5:Int)=>(fun (u6:Bool)=>1<=1/\1<=1/\(u6=true->Wp Tryd.prog R 47 6 Rd.top (ae Tryd.prog 78) [0,1,0] (aq Tryd.prog R 47 6 Rd.top (ae Tryd.prog 78) Q [Kont.blk 0]) (St.mk [(0,int i64 u5),(1,int u64 (s:Int)),(2,ref 0 0),(4,ref 2 0),(5,ref 3 0),(6,ref 4 0),(9,AV.bool u6)] u1 g))/\(u6=false->1<=1/\(decide (u5<u4)=true->1<=1/\(-9223372036854775808<=u5+1/\u5+1<=9223372036854775807)/\(true=true/\Does Tryd.prog R 78 [int i64 (u5+1),int u64 (s:Int),ref 0 0,ref 1 0,ref 2 0,ref 3 0,ref 4 0] u1 g (ret (tup 0 (nth []))) u3 g)/\Tables.follows Tryd.prog.toTables Departure.mixedOrders=true/\1<=1/\(-9223372036854775808<=u5+1/\u5+1<=9223372036854775807)/\1<=1/\(0<=u5/\u5<u4)/\1<=1/\(∀(hp:List AObj) (g:R.σ),true=true/\Does Tryd.prog R 79 [ag O.l k] hp g (ret (int u64 (↑(2^(O.l.getD k 0).toNat):Int))) hp g)/\(true=true/\Does Tryd.prog R 78 [int i64 (u5+1),int u64 (IntKind.wrap u64 (↑(BitVec.toNat (BitVec.ofInt 64 (s:Int)|||BitVec.ofInt 64 (↑(2^(O.l.getD k 0).toNat):Int))):Int)),ref 0 0,ref 1 0,ref 2 0,ref 3 0,ref 4 0] u3 g (ret (tup 0 (nth []))) u2 g)/\Q AEx.normal (St.mk [] u2 g))/\(decide (u5<u4)=false->Wp Tryd.prog R 47 6 Rd.top (ae Tryd.prog 78) [0,1,1,1,1] (aq Tryd.prog R 47 6 Rd.top (ae Tryd.prog 78) Q [Kont.blk 0]) (St.mk [(0,int i64 u5),(1,int u64 (s:Int)),(2,ref 0 0),(4,ref 2 0),(5,ref 3 0),(6,ref 4 0),(14,AV.bool (decide (u5<u4)))] u1 g)))) ((m:Int)==(most:Int))) ((k:Int))) ((O.l.length:Int))) ([cells false 1 fun (x:Nat)=>ow true 6 m1 1,cells false 1 fun (x:Nat)=>int i64 (most:Int),cells false 1 fun (x:Nat)=>fz O.2 1 (O.l.length) fun (i x:Nat)=>ag O.l i,cells false 1 fun (x:Nat)=>fn 78 0 (nth []) 5 (nth [ref 0 0,ref 1 0,ref 2 0,ref 3 0,ref 4 0]),cells false 2 (nth [int i64 p.atoms,ad p.rules]),dead,cells false (m1*1) fun (a:Nat)=>fz Fz.auto 1 ((ah (L1.getD a 0)).l.length) fun (i x:Nat)=>ag (ah (L1.getD a 0)).l i])) ([cells false 1 fun (j:Nat)=>ow true 7 m' 1,cells false 1 fun (x:Nat)=>int i64 (most:Int),cells false 1 fun (x:Nat)=>fz O.2 1 (O.l.length) fun (i x:Nat)=>ag O.l i,cells false 1 fun (x:Nat)=>fn 78 0 (nth []) 5 (nth [ref 0 0,ref 1 0,ref 2 0,ref 3 0,ref 4 0]),cells false 2 (nth [int i64 p.atoms,ad p.rules]),dead,dead,cells false (m'*1) fun (a:Nat)=>fz Fz.auto 1 ((ah (L'.getD a 0)).l.length) fun (i x:Nat)=>ag (ah (L'.getD a 0)).l i])) ([cells false 1 fun (x:Nat)=>ow true 5 m 1,cells false 1 fun (x:Nat)=>int i64 (most:Int),cells false 1 fun (x:Nat)=>fz O.2 1 (O.l.length) fun (i x:Nat)=>ag O.l i,cells false 1 fun (x:Nat)=>fn 78 0 (nth []) 5 (nth [ref 0 0,ref 1 0,ref 2 0,ref 3 0,ref 4 0]),cells false 2 (nth [int i64 p.atoms,ad p.rules]),cells false (m*1) fun (a:Nat)=>fz Fz.auto 1 ((ah (L.getD a 0)).l.length) fun (i x:Nat)=>ag (ah (L.getD a 0)).l i])) (fun _=>by kernel_rfl) ⟨by omega,by omega,fun hcc=>(nomatch (hz.symm.trans hcc)),fun _=>⟨by omega,fun _=>⟨by omega,by omega,⟨rfl,(i1 _ _)⟩,by kernel_rfl,by omega,by omega,by omega,by omega,by omega,(fun _ _=>⟨rfl,(ef _ _ (by omega) _ _)⟩),⟨rfl,(a9 (T:=LT) inferInstance [0,1,2,3,4,6] 7 (fun R _ g=>i2 R g) rfl rfl rfl (by exact⟨⟨rfl,Nat.le_refl _,fun j hj=>match j,hj with|0,_=>(Le.refl _) ⟩,⟨rfl,Nat.le_refl _,fun j hj=>match j,hj with|0,_=>(Le.refl _) ⟩,⟨rfl,Nat.le_refl _,fun j hj=>match j,hj with|0,_=>(Le.refl _) ⟩,⟨rfl,Nat.le_refl _,fun j hj=>match j,hj with|0,_=>(Le.fn (fun i hi=>absurd hi (by omega)) (fun i hi=>match i,hi with|0,_=>(Le.refl _)|1,_=>(Le.refl _)|2,_=>(Le.refl _)|3,_=>(Le.refl _)|4,_=>(Le.refl _) )) ⟩,⟨rfl,Nat.le_refl _,fun j hj=>match j,hj with|0,_=>(Le.refl _)|1,_=>(Le.refl _) ⟩,⟨rfl,Nat.le_refl _,fun j hj=>(by first|exact az (by first|exact trivial|apply fX)|exact Le.of_eq (jt rfl).symm)⟩,trivial⟩) (by exact⟨by omega,by omega,by omega,by omega,by omega,by omega,trivial⟩) (by exact⟨az (by exact trivial),az (by exact trivial),Le.refl _,Le.refl _,Le.refl _,Le.refl _,Le.refl _,trivial⟩) (by exact aC (by exact trivial)) (by exact⟨LeO.rflc,⟨rfl,Nat.le_refl _,fun j hj=>match j,hj with|0,_=>(Le.refl _) ⟩,⟨rfl,Nat.le_refl _,fun j hj=>match j,hj with|0,_=>(Le.refl _) ⟩,⟨rfl,Nat.le_refl _,fun j hj=>match j,hj with|0,_=>(Le.fn (fun i hi=>absurd hi (by omega)) (fun i hi=>match i,hi with|0,_=>(Le.refl _)|1,_=>(Le.refl _)|2,_=>(Le.refl _)|3,_=>(Le.refl _)|4,_=>(Le.refl _) )) ⟩,⟨rfl,Nat.le_refl _,fun j hj=>match j,hj with|0,_=>(Le.refl _)|1,_=>(Le.refl _) ⟩,trivial,trivial,⟨rfl,Nat.le_refl _,fun j hj=>(by first|exact aC (by first|exact trivial|apply fX)|exact Le.of_eq (jt rfl))⟩,trivial⟩))⟩,?_⟩,fun hcc=>(nomatch (hb.symm.trans hcc))⟩⟩
    refine lb (.tup 0 (nth [])) _ rfl trivial ?_
    refine bi [0,1,2,3,4,5,7] 8 ?_ ?_ ?_ ?_ ?_ ?_ ?_
    ·rfl
    ·rfl
    ·rfl
    ·rfl
    ·rfl
    ·exact⟨Le.refl _,trivial⟩
    ·exact⟨⟨rfl,Nat.le_refl _,fun j hj=>Le.refl _⟩,LeO.refl _,LeO.refl _,⟨rfl,Nat.le_refl _,fun j hj=>lc⟩,⟨rfl,Nat.le_refl _,fun j hj=>match j,hj with|0,_=>Le.refl _|1,_=>az (by exact trivial)⟩,trivial,⟨rfl,Nat.le_refl _,fun j hj=>Le.refl _⟩,trivial⟩
def dG (p:Prg):Nat:=aK (al p).2 3 p.atoms.toNat
def gH (p:Prg):Nat:=aK (al p).2 2 p.atoms.toNat
def stP (p:Prg)(most:Nat):List Nat:=stF p most (aG (dG p)) (gH p) []
theorem nQ {p:Prg}{most:Nat}{O:KL Int}(hm:1<=most/\most<=100)(hO:O.l.length<=10)(hOa:∀a,a∈O.l->0<=a/\a<24)(hl:p.rules.l.length<1000000)(hr:∀r,r∈p.rules.l->aQ r):∀(j k:Nat),k+j=O.l.length->FromC p most O (O.l.drop k) (k:Int)
 |0,k,h=>by
  have hk:k=O.l.length:=by omega
  subst hk
  rw[List.drop_length]
  exact xX hm hO hl hr
 |j+1,k,h=>by
  rw[ib O.l 0 (show k<O.l.length by omega)]
  exact xY hm hO (by omega) (hOa _ (cg O.l 0 (by omega))) (nQ hm hO hOa hl hr j (k+1) (by omega))
theorem rQ {s:Nat}:∀a,a∈(ah s).l->0<=a/\a<24:=by
 intro a ha
 obtain⟨b,hb,rfl⟩:=List.mem_map.1 (show a∈(aj s).map (fun (a:Nat)=>(a:Int)) from ha)
 have:=kL hb
 omega
theorem xZ (R:Res)[Tab LT R](p:Prg)(most:Nat)(hb:aJ p=true)(hm:1<=most/\most<=100)(hO:(aG (dG p)).length<=10)(hN:stP p most=[])(g:R.σ):Does Tryd.prog R 27 [au p,.int .i64 most] [] g (.ret (.tup 2 (nth [.fz .nil 0 0 (fun _ _=>.any),.int .i64 0]))) [] g:=by
 obtain⟨hl,hr,hp,hh,hx⟩:=em hb
 have hs:dw p:=gw hb
 have hp':1<=p.atoms/\p.atoms<=24:=hp
 have hc:(bif ((if aJ p then(0:Int) else 2) != 0) then true else !decide (1<=(most:Int)/\(most:Int)<=100))=false:=by
  rw[hb,decide_eq_true (by omega)]
  rfl
 have hD:=fun (R:Res) [Tab LT R] (g:R.σ)=>nr R p hl hr hp hh g
 have hC:=fun (R:Res) [Tab LT R] (s:Nat) (hs:s<2^24) (g:R.σ)=>il R s hs g
 have hlt:aK (al p).2 3 p.atoms.toNat<2^24:=jg (by omega)
 have hS:=fun (R:Res) (g:R.σ)=>la R (al p).2 p.atoms 3 (by omega) g
 have hS2:=fun (R:Res) (g:R.σ)=>la R (al p).2 p.atoms 2 (by omega) g
 have hgt:decide ((10:Int)<((ah (aK (al p).2 3 p.atoms.toNat)).l.length:Int))=false:=decide_eq_false (by
  have hO:(ah (aK (al p).2 3 p.atoms.toNat)).l.length<=10:=hO
  omega)
 have hF0:=(nQ (p:=p) (most:=most) (O:=ah (dG p)) hm hO rQ hl hr (ah (dG p)).l.length 0 (by omega)).nn
 rw[List.drop_zero] at hF0
 have hF:=fun (R:Res) [Tab LT R] (g:R.σ)=>hF0 R (gH p) g (jg (by omega)) hN
 unfold gH dG at hF
 clear hF0
 refine aA (nt:=45) (rs:=[.tmp 4,.tmp 5]) (k0:=0) (by kernel_rfl) (by kernel_rfl) (by kernel_rfl) rfl ?_
 refine vcQ [[1,0,1,0],[1,1,1,1,0,1,0]] (lkL [(0,[2,3]),(1,[2,3,18]),(3,[2,3,7]),(4,[2,3,7,8]),(5,[2,3,7,8,34]),(7,[2,3,7,8,9]),(8,[2,3,7,8,9,10]),(9,[2,7,9,10]),(10,[9]),(11,[4,5])]) (lkL [(1,[(1,ROrc.pcall (int i64 (if aJ p=true then 0 else 2))),(5,ROrc.pcall (AV.bool (decide (1<=(most:Int)/\(most:Int)<=100))))]),(3,[(1,ROrc.call (tup 2 (nth [fz Fz.auto 2 ((bO (al p).fst).l.length) fun (i:Nat)=>fc ((bO (al p).fst).l.getD i default),ref 2 0])) [cells false 2 (nth [int i64 p.atoms,ad p.rules]),cells false 1 fun (a:Nat)=>int i64 (most:Int),cells false 27 (aP (al p).snd)] g)]),(4,[(5,ROrc.lcall (int u64 (↑(aK (al p).snd 3 (p.atoms.toNat)):Int)) [2]),(6,ROrc.callN (fn 105 0 (nth []) 1 (nth [ref (List.length [cells false 2 (nth [int i64 p.atoms,ad p.rules]),cells false 1 fun (a:Nat)=>int i64 (most:Int),cells false 27 (aP (al p).snd)]) 0])) [] [cells false 1 fun (x:Nat)=>int u64 (↑(aK (al p).snd 3 (p.atoms.toNat)):Int)] g),(7,ROrc.callS (fz Fz.auto 1 ((ah (aK (al p).snd 3 (p.atoms.toNat))).l.length) fun (i x:Nat)=>ag (ah (aK (al p).snd 3 (p.atoms.toNat))).l i) [(3,cells false 1 fun (j:Nat)=>any)] g),(9,ROrc.val (Orc.obj (nth [fz Fz.auto 1 ((ah (aK (al p).snd 3 (p.atoms.toNat))).l.length) fun (i x:Nat)=>ag (ah (aK (al p).snd 3 (p.atoms.toNat))).l i])))]),(9,[(1,ROrc.val (Orc.obj (nth [fn 78 0 (nth []) 5 (nth [ref 5 0,ref 1 0,ref 4 0,ref 6 0,ref 0 0])])))]),(10,[(6,ROrc.lcall (int u64 (↑(aK (al p).snd 2 (p.atoms.toNat)):Int)) [2]),(7,ROrc.kcall (tup 0 (nth [])))])]) (fun Q=>(fun (u1:List AObj)=>(fun (u2:Nat)=>(fun (u3:Int)=>(fun (u4:AObj)=>(fun (u5:AObj)=>(fun (u6:AV)=>(fun (u7:AObj)=>(fun (u8:Bool)=>(fun (u9:Int)=>(fun (u10:List AV)=>(fun (u11:AV)=>(fun (u12:List AObj)=>(fun (u13:Int)=>2<=2/\(∀(hp:List AObj) (g:R.σ),true=true/\Does Tryd.prog R 16 [au p] hp g (ret (int i64 u13)) hp g)/\((!u13 != 0)=true->1<=1)/\((!u13 != 0)=true->∀(hp:List AObj) (g:R.σ),true=true/\Does Tryd.prog R 58 [int i64 u3,int i64 1,int i64 100] hp g (ret (AV.bool (decide (1<=u3/\u3<=100)))) hp g)/\(u8=true->Wp Tryd.prog R 45 0 Rd.top (ae Tryd.prog 27) [1,0,1,0] (aq Tryd.prog R 45 0 Rd.top (ae Tryd.prog 27) Q [Kont.seq [1,1]]) (St.mk [(2,ref 0 0),(3,ref 1 0),(18,AV.bool u8)] [u4,u5] g))/\(u8=false->2<=2/\(true=true/\Does Tryd.prog R 60 [au p] [u4,u5] g (ret (tup 2 (nth [fz Fz.auto 2 ((bO (al p).fst).l.length) fun (i:Nat)=>fc ((bO (al p).fst).l.getD i default),ref 2 0]))) [u4,u5,u7] g)/\Tables.follows Tryd.prog.toTables Departure.mixedOrders=true/\1<=2/\(∀(hp':List AObj) (g':R.σ),SameO [2] [u4,u5,u7] hp'->true=true/\Does Tryd.prog R 76 [ref 2 2,int i64 p.atoms,int i64 3] hp' g' (ret (int u64 (u2:Int))) hp' g')/\(true=true/\Does Tryd.prog R 77 [int u64 (u2:Int)] [u4,u5,u7] g (ret (fn 105 0 (nth []) 1 (nth [ref 3 0]))) u12 g)/\(true=true/\Does Tryd.prog R 75 [fn 105 0 (nth []) 1 (nth [ref 3 0])] u12 g (ret u6) [u4,u5,u7,cells false 1 fun (j:Nat)=>any] g)/\1<=1/\(∀(c:Nat),c<1->nth [u6] c=ak (fun (a:Nat)=>fz Fz.nil 0 0 fun _ _=>any) 0 1 (fun (x:Nat)=>u6) c)/\1<=1/\(decide (u9 > 10)=true->Wp Tryd.prog R 45 0 Rd.top (ae Tryd.prog 27) [1,1,1,1,0,1,0] (aq Tryd.prog R 45 0 Rd.top (ae Tryd.prog 27) Q [Kont.seq [1,1,1,1,1]]) (St.mk [(2,ref 0 0),(3,ref 1 0),(7,ref 2 0),(8,ref 4 0),(34,AV.bool (decide (u9 > 10)))] [u4,u5,u7,cells false 1 fun (j:Nat)=>any,cells false 1 (nth [u6])] g))/\(decide (u9 > 10)=false->1<=1/\(∀(c:Nat),c<1->nth [fn 78 0 (nth []) 5 (nth u10)] c=ak (fun (a:Nat)=>AV.nilf) 0 1 (fun (x:Nat)=>fn 78 0 (nth []) 5 (nth u10)) c)/\Tables.follows Tryd.prog.toTables Departure.mixedOrders=true/\1<=1/\1<=2/\(∀(hp':List AObj) (g':R.σ),SameO [2] u1 hp'->true=true/\Does Tryd.prog R 76 [ref 2 2,int i64 p.atoms,int i64 2] hp' g' (ret u11) hp' g')/\(true=true/\Does Tryd.prog R 78 (int i64 0::u11::u10) u1 g (ret (tup 0 (nth []))) u1 g)/\1<=1/\Q AEx.ret (St.mk [(4,fz Fz.nil 0 0 fun _ _=>any),(5,int i64 0)] u1 g)))) (if aJ p=true then 0 else 2)) ([u4,u5,u7,cells false 1 fun (x:Nat)=>int u64 (u2:Int)])) (int u64 (↑(aK (al p).snd 2 (p.atoms.toNat)):Int))) ([ref 5 0,ref 1 0,ref 4 0,ref 6 0,ref 0 0])) ((↑((ah u2).l.length):Int))) (bif (if aJ p=true then 0 else 2) != 0 then true else !decide (1<=u3/\u3<=100))) (cells false 27 (aP (al p).snd))) (fz Fz.auto 1 ((ah u2).l.length) fun (i x:Nat)=>ag (ah u2).l i)) (cells false 1 fun (a:Nat)=>int i64 u3)) (cells false 2 (nth [int i64 p.atoms,ad p.rules]))) ((most:Int))) (aK (al p).snd 3 (p.atoms.toNat))) ([cells false 2 (nth [int i64 p.atoms,ad p.rules]),cells false 1 fun (a:Nat)=>int i64 (most:Int),cells false 27 (aP (al p).snd),cells false 1 fun (j:Nat)=>any,cells false 1 (nth [fz Fz.auto 1 ((ah (aK (al p).snd 3 (p.atoms.toNat))).l.length) fun (i x:Nat)=>ag (ah (aK (al p).snd 3 (p.atoms.toNat))).l i]),cells false 1 fun (a:Nat)=>fz Fz.nil 0 0 fun _ _=>any,cells false 1 (nth [fn 78 0 (nth []) 5 (nth [ref 5 0,ref 1 0,ref 4 0,ref 6 0,ref 0 0])])])) (fun _=>by kernel_rfl) ⟨by omega,(fun _ _=>⟨rfl,(eJ _ _ _ _ (by omega))⟩),by omega,(fun hgd=>(fun _ _=>⟨rfl,(dv _ _ _ _ _ _)⟩)),fun hcc=>(nomatch (hc.symm.trans hcc)),fun _=>⟨by omega,⟨rfl,(a9 (T:=LT) inferInstance [] 2 (fun R _ g=>hD R g) rfl rfl rfl (by exact trivial) (by exact trivial) (by exact⟨az (by exact⟨⟨trivial,trivial⟩,trivial⟩),trivial⟩) (by exact(Le.tup (fun i hi=>match i,hi with|0,_=>(Le.refl _)|1,_=>(Le.refl _) ))) (by exact⟨LeO.rflc,LeO.rflc,⟨rfl,Nat.le_refl _,fun j hj=>(by first|exact aC (by first|exact trivial|apply jm)|exact Le.of_eq (cM rfl))⟩,trivial⟩))⟩,by kernel_rfl,by omega,?_,⟨rfl,(cX _ _ _ _)⟩,⟨rfl,(a9 (T:=LT) inferInstance [3] 4 (fun R _ g=>hC R (aK (al p).snd 3 (p.atoms.toNat)) (by omega) g) rfl rfl rfl (by exact⟨⟨rfl,Nat.le_refl _,fun j hj=>match j,hj with|0,_=>(Le.refl _) ⟩,trivial⟩) (by exact⟨by omega,trivial⟩) (by exact⟨(Le.fn (fun i hi=>absurd hi (by omega)) (fun i hi=>match i,hi with|0,_=>(Le.refl _) )),trivial⟩) (by exact aC (by exact trivial)) (by exact⟨LeO.rflc,LeO.rflc,LeO.rflc,LeO.rflc,trivial⟩))⟩,by omega,(fun c hc=>match c,hc with|0,_=>(by kernel_rfl) ),by omega,fun hcc=>(nomatch (hgt.symm.trans hcc)),fun _=>⟨by omega,(fun c hc=>match c,hc with|0,_=>(by kernel_rfl) ),by kernel_rfl,by omega,by omega,?_,⟨rfl,(a9 (T:=LT) inferInstance [5,1,4,6,0] 7 (fun R _ g=>hF R g) rfl rfl rfl (by exact⟨⟨rfl,Nat.le_refl _,fun j hj=>match j,hj with|0,_=>(Le.refl _) ⟩,⟨rfl,Nat.le_refl _,fun j hj=>match j,hj with|0,_=>(Le.refl _) ⟩,⟨rfl,Nat.le_refl _,fun j hj=>match j,hj with|0,_=>(Le.refl _) ⟩,⟨rfl,Nat.le_refl _,fun j hj=>match j,hj with|0,_=>(Le.fn (fun i hi=>absurd hi (by omega)) (fun i hi=>match i,hi with|0,_=>(Le.refl _)|1,_=>(Le.refl _)|2,_=>(Le.refl _)|3,_=>(Le.refl _)|4,_=>(Le.refl _) )) ⟩,⟨rfl,Nat.le_refl _,fun j hj=>match j,hj with|0,_=>(Le.refl _)|1,_=>(Le.refl _) ⟩,trivial⟩) (by exact⟨by omega,by omega,by omega,by omega,by omega,trivial⟩) (by exact⟨az (by exact trivial),az (by exact trivial),Le.refl _,Le.refl _,Le.refl _,Le.refl _,Le.refl _,trivial⟩) (by exact aC (by exact trivial)) (by exact⟨⟨rfl,Nat.le_refl _,fun j hj=>match j,hj with|0,_=>(Le.refl _)|1,_=>(Le.refl _) ⟩,⟨rfl,Nat.le_refl _,fun j hj=>match j,hj with|0,_=>(Le.refl _) ⟩,LeO.rflc,LeO.rflc,⟨rfl,Nat.le_refl _,fun j hj=>match j,hj with|0,_=>(Le.refl _) ⟩,⟨rfl,Nat.le_refl _,fun j hj=>match j,hj with|0,_=>(Le.refl _) ⟩,⟨rfl,Nat.le_refl _,fun j hj=>match j,hj with|0,_=>(Le.fn (fun i hi=>absurd hi (by omega)) (fun i hi=>match i,hi with|0,_=>(Le.refl _)|1,_=>(Le.refl _)|2,_=>(Le.refl _)|3,_=>(Le.refl _)|4,_=>(Le.refl _) )) ⟩,trivial⟩))⟩,by omega,?_⟩⟩⟩
 ·intro hp' g' hs'
  exact⟨rfl,i5 [2] (fun R g=>hS R g) (by exact⟨rfl,trivial⟩) rfl (by exact fun n=>⟨LeO.cells (fun j hj=>(cM trivial).symm),trivial⟩) ⟨by omega,trivial⟩ (by exact fun n=>⟨Le.refl _,Le.refl _,Le.refl _,trivial⟩) rfl (by exact fun n=>Le.refl _) (by exact fun n=>⟨LeO.cells (fun j hj=>cM trivial),trivial⟩) hp' g' hs'⟩
 ·intro hp' g' hs'
  exact⟨rfl,i5 [2] (fun R g=>hS2 R g) (by exact⟨rfl,trivial⟩) rfl (by exact fun n=>⟨LeO.cells (fun j hj=>(cM trivial).symm),trivial⟩) ⟨by omega,trivial⟩ (by exact fun n=>⟨Le.refl _,Le.refl _,Le.refl _,trivial⟩) rfl (by exact fun n=>Le.refl _) (by exact fun n=>⟨LeO.cells (fun j hj=>cM trivial),trivial⟩) hp' g' hs'⟩
 ·refine(ax (bC _ _ rfl trivial ⟨⟨trivial,trivial⟩,trivial⟩ rfl) (Le.refl _))
theorem x7 (R:Res)[Tab LT R](p:Prg)(most:Nat)(hb:aJ p=true)(hm:1<=most/\most<=100)(hO:(aG (dG p)).length<=10)(hN:stP p most≠[])(g:R.σ):Does Tryd.prog R 27 [au p,.int .i64 most] [] g (.ret (.tup 2 (nth [a8 (stP p most).length (fun i=>ah ((stP p most).getD i 0)),.int .i64 0]))) [] g:=by
 obtain⟨hl,hr,hp,hh,hx⟩:=em hb
 have hs:dw p:=gw hb
 have hp':1<=p.atoms/\p.atoms<=24:=hp
 have hc:(bif ((if aJ p then(0:Int) else 2) != 0) then true else !decide (1<=(most:Int)/\(most:Int)<=100))=false:=by
  rw[hb,decide_eq_true (by omega)]
  rfl
 have hD:=fun (R:Res) [Tab LT R] (g:R.σ)=>nr R p hl hr hp hh g
 have hC:=fun (R:Res) [Tab LT R] (s:Nat) (hs:s<2^24) (g:R.σ)=>il R s hs g
 have hlt:aK (al p).2 3 p.atoms.toNat<2^24:=jg (by omega)
 have hS:=fun (R:Res) (g:R.σ)=>la R (al p).2 p.atoms 3 (by omega) g
 have hS2:=fun (R:Res) (g:R.σ)=>la R (al p).2 p.atoms 2 (by omega) g
 have hgt:decide ((10:Int)<((ah (aK (al p).2 3 p.atoms.toNat)).l.length:Int))=false:=decide_eq_false (by
  have hO:(ah (aK (al p).2 3 p.atoms.toNat)).l.length<=10:=hO
  omega)
 obtain⟨L,hL⟩:∃L,stP p most=L:=⟨_,rfl⟩
 rw[hL] at hN ⊢
 obtain⟨m,hm0⟩:∃m,m=L.length:=⟨_,rfl⟩
 have hmm:m<=100:=by
  have:=(ep (p:=p) (most:=most) (r:=aG (dG p)) (s:=gH p) (out:=[]) (Nat.zero_le _)).2.1
  have hL':stF p most (aG (dG p)) (gH p) []=L:=hL
  rw[hL'] at this
  omega
 have hF0:=(nQ (p:=p) (most:=most) (O:=ah (dG p)) hm hO rQ hl hr (ah (dG p)).l.length 0 (by omega)).nw
 rw[List.drop_zero] at hF0
 have hF:=fun (R:Res) [Tab LT R] (g:R.σ)=>hF0 R (gH p) m L g (jg (by omega)) hL hN hm0
 unfold gH dG at hF
 clear hF0
 refine aA (nt:=45) (rs:=[.tmp 4,.tmp 5]) (k0:=0) (by kernel_rfl) (by kernel_rfl) (by kernel_rfl) rfl ?_
 refine vcQ [[1,0,1,0],[1,1,1,1,0,1,0]] (lkL [(0,[2,3]),(1,[2,3,18]),(3,[2,3,7]),(4,[2,3,7,8]),(5,[2,3,7,8,34]),(7,[2,3,7,8,9]),(8,[2,3,7,8,9,10]),(9,[2,7,9,10]),(10,[9]),(11,[4,5])]) (lkL [(1,[(1,ROrc.pcall (int i64 (if aJ p=true then 0 else 2))),(5,ROrc.pcall (AV.bool (decide (1<=(most:Int)/\(most:Int)<=100))))]),(3,[(1,ROrc.call (tup 2 (nth [fz Fz.auto 2 ((bO (al p).fst).l.length) fun (i:Nat)=>fc ((bO (al p).fst).l.getD i default),ref 2 0])) [cells false 2 (nth [int i64 p.atoms,ad p.rules]),cells false 1 fun (a:Nat)=>int i64 (most:Int),cells false 27 (aP (al p).snd)] g)]),(4,[(5,ROrc.lcall (int u64 (↑(aK (al p).snd 3 (p.atoms.toNat)):Int)) [2]),(6,ROrc.callN (fn 105 0 (nth []) 1 (nth [ref (List.length [cells false 2 (nth [int i64 p.atoms,ad p.rules]),cells false 1 fun (a:Nat)=>int i64 (most:Int),cells false 27 (aP (al p).snd)]) 0])) [] [cells false 1 fun (x:Nat)=>int u64 (↑(aK (al p).snd 3 (p.atoms.toNat)):Int)] g),(7,ROrc.callS (fz Fz.auto 1 ((ah (aK (al p).snd 3 (p.atoms.toNat))).l.length) fun (i x:Nat)=>ag (ah (aK (al p).snd 3 (p.atoms.toNat))).l i) [(3,cells false 1 fun (j:Nat)=>any)] g),(9,ROrc.val (Orc.obj (nth [fz Fz.auto 1 ((ah (aK (al p).snd 3 (p.atoms.toNat))).l.length) fun (i x:Nat)=>ag (ah (aK (al p).snd 3 (p.atoms.toNat))).l i])))]),(9,[(1,ROrc.val (Orc.obj (nth [fn 78 0 (nth []) 5 (nth [ref 5 0,ref 1 0,ref 4 0,ref 6 0,ref 0 0])])))]),(10,[(6,ROrc.lcall (int u64 (↑(aK (al p).snd 2 (p.atoms.toNat)):Int)) [2]),(7,ROrc.callN (tup 0 (nth [])) [(5,cells false 1 fun (j:Nat)=>ow true 7 m 1)] [cells false (m*1) (aI L)] g)])]) (fun Q=>(fun (u1:AV)=>(fun (u2:AObj)=>(fun (u3:AObj)=>(fun (u4:List AObj)=>(fun (u5:Int)=>(fun (u6:Int)=>(fun (u7:List AObj)=>(fun (u8:AObj)=>(fun (u9:Bool)=>(fun (u10:AV)=>(fun (u11:List AV)=>(fun (u12:AV)=>(fun (u13:Int)=>2<=2/\(∀(hp:List AObj) (g:R.σ),true=true/\Does Tryd.prog R 16 [au p] hp g (ret (int i64 u13)) hp g)/\((!u13 != 0)=true->1<=1)/\((!u13 != 0)=true->∀(hp:List AObj) (g:R.σ),true=true/\Does Tryd.prog R 58 [int i64 u6,int i64 1,int i64 100] hp g (ret (AV.bool (decide (1<=u6/\u6<=100)))) hp g)/\(u9=true->Wp Tryd.prog R 45 0 Rd.top (ae Tryd.prog 27) [1,0,1,0] (aq Tryd.prog R 45 0 Rd.top (ae Tryd.prog 27) Q [Kont.seq [1,1]]) (St.mk [(2,ref 0 0),(3,ref 1 0),(18,AV.bool u9)] [u2,u3] g))/\(u9=false->2<=2/\(true=true/\Does Tryd.prog R 60 [au p] [u2,u3] g (ret (tup 2 (nth [fz Fz.auto 2 ((bO (al p).fst).l.length) fun (i:Nat)=>fc ((bO (al p).fst).l.getD i default),ref 2 0]))) [u2,u3,u8] g)/\Tables.follows Tryd.prog.toTables Departure.mixedOrders=true/\1<=2/\(∀(hp':List AObj) (g':R.σ),SameO [2] [u2,u3,u8] hp'->true=true/\Does Tryd.prog R 76 [ref 2 2,int i64 p.atoms,int i64 3] hp' g' (ret u10) hp' g')/\(true=true/\Does Tryd.prog R 77 [u10] [u2,u3,u8] g (ret (fn 105 0 (nth []) 1 (nth [ref 3 0]))) [u2,u3,u8,cells false 1 fun (x:Nat)=>u10] g)/\(true=true/\Does Tryd.prog R 75 [fn 105 0 (nth []) 1 (nth [ref 3 0])] [u2,u3,u8,cells false 1 fun (x:Nat)=>u10] g (ret u1) [u2,u3,u8,cells false 1 fun (j:Nat)=>any] g)/\1<=1/\(∀(c:Nat),c<1->nth [u1] c=ak (fun (a:Nat)=>fz Fz.nil 0 0 fun _ _=>any) 0 1 (fun (x:Nat)=>u1) c)/\1<=1/\(decide (u5 > 10)=true->Wp Tryd.prog R 45 0 Rd.top (ae Tryd.prog 27) [1,1,1,1,0,1,0] (aq Tryd.prog R 45 0 Rd.top (ae Tryd.prog 27) Q [Kont.seq [1,1,1,1,1]]) (St.mk [(2,ref 0 0),(3,ref 1 0),(7,ref 2 0),(8,ref 4 0),(34,AV.bool (decide (u5 > 10)))] [u2,u3,u8,cells false 1 fun (j:Nat)=>any,cells false 1 (nth [u1])] g))/\(decide (u5 > 10)=false->1<=1/\(∀(c:Nat),c<1->nth [fn 78 0 (nth []) 5 (nth u11)] c=ak (fun (a:Nat)=>AV.nilf) 0 1 (fun (x:Nat)=>fn 78 0 (nth []) 5 (nth u11)) c)/\Tables.follows Tryd.prog.toTables Departure.mixedOrders=true/\1<=1/\1<=2/\(∀(hp':List AObj) (g':R.σ),SameO [2] u7 hp'->true=true/\Does Tryd.prog R 76 [ref 2 2,int i64 p.atoms,int i64 2] hp' g' (ret u12) hp' g')/\(true=true/\Does Tryd.prog R 78 (int i64 0::u12::u11) u7 g (ret (tup 0 (nth []))) u4 g)/\1<=1/\Q AEx.ret (St.mk [(4,ow true 7 m 1),(5,int i64 0)] u4 g)))) (if aJ p=true then 0 else 2)) (int u64 (↑(aK (al p).snd 2 (p.atoms.toNat)):Int))) ([ref 5 0,ref 1 0,ref 4 0,ref 6 0,ref 0 0])) (int u64 (↑(aK (al p).snd 3 (p.atoms.toNat)):Int))) (bif (if aJ p=true then 0 else 2) != 0 then true else !decide (1<=u6/\u6<=100))) (cells false 27 (aP (al p).snd))) ([u2,u3,cells false 27 (aP (al p).snd),cells false 1 fun (j:Nat)=>any,cells false 1 (nth [u1]),cells false 1 fun (a:Nat)=>fz Fz.nil 0 0 fun _ _=>any,cells false 1 (nth [fn 78 0 (nth []) 5 (nth [ref 5 0,ref 1 0,ref 4 0,ref 6 0,ref 0 0])])])) ((most:Int))) ((↑((ah (aK (al p).snd 3 (p.atoms.toNat))).l.length):Int))) ([u2,u3,cells false 27 (aP (al p).snd),cells false 1 fun (j:Nat)=>any,cells false 1 (nth [u1]),cells false 1 fun (j:Nat)=>ow true 7 m 1,cells false 1 (nth [fn 78 0 (nth []) 5 (nth [ref 5 0,ref 1 0,ref 4 0,ref 6 0,ref 0 0])]),cells false (m*1) fun (a:Nat)=>fz Fz.auto 1 ((ah (L.getD a 0)).l.length) fun (i x:Nat)=>ag (ah (L.getD a 0)).l i])) (cells false 1 fun (a:Nat)=>int i64 (most:Int))) (cells false 2 (nth [int i64 p.atoms,ad p.rules]))) (fz Fz.auto 1 ((ah (aK (al p).snd 3 (p.atoms.toNat))).l.length) fun (i x:Nat)=>ag (ah (aK (al p).snd 3 (p.atoms.toNat))).l i)) (fun _=>by kernel_rfl) ⟨by omega,(fun _ _=>⟨rfl,(eJ _ _ _ _ (by omega))⟩),by omega,(fun hgd=>(fun _ _=>⟨rfl,(dv _ _ _ _ _ _)⟩)),fun hcc=>(nomatch (hc.symm.trans hcc)),fun _=>⟨by omega,⟨rfl,(a9 (T:=LT) inferInstance [] 2 (fun R _ g=>hD R g) rfl rfl rfl (by exact trivial) (by exact trivial) (by exact⟨az (by exact⟨⟨trivial,trivial⟩,trivial⟩),trivial⟩) (by exact(Le.tup (fun i hi=>match i,hi with|0,_=>(Le.refl _)|1,_=>(Le.refl _) ))) (by exact⟨LeO.rflc,LeO.rflc,⟨rfl,Nat.le_refl _,fun j hj=>(by first|exact aC (by first|exact trivial|apply jm)|exact Le.of_eq (cM rfl))⟩,trivial⟩))⟩,by kernel_rfl,by omega,?_,⟨rfl,(cX _ _ _ _)⟩,⟨rfl,(a9 (T:=LT) inferInstance [3] 4 (fun R _ g=>hC R (aK (al p).snd 3 (p.atoms.toNat)) (by omega) g) rfl rfl rfl (by exact⟨⟨rfl,Nat.le_refl _,fun j hj=>match j,hj with|0,_=>(Le.refl _) ⟩,trivial⟩) (by exact⟨by omega,trivial⟩) (by exact⟨(Le.fn (fun i hi=>absurd hi (by omega)) (fun i hi=>match i,hi with|0,_=>(Le.refl _) )),trivial⟩) (by exact aC (by exact trivial)) (by exact⟨LeO.rflc,LeO.rflc,LeO.rflc,LeO.rflc,trivial⟩))⟩,by omega,(fun c hc=>match c,hc with|0,_=>(by kernel_rfl) ),by omega,fun hcc=>(nomatch (hgt.symm.trans hcc)),fun _=>⟨by omega,(fun c hc=>match c,hc with|0,_=>(by kernel_rfl) ),by kernel_rfl,by omega,by omega,?_,⟨rfl,(a9 (T:=LT) inferInstance [5,1,4,6,0] 7 (fun R _ g=>hF R g) rfl rfl rfl (by exact⟨⟨rfl,Nat.le_refl _,fun j hj=>match j,hj with|0,_=>(Le.refl _) ⟩,⟨rfl,Nat.le_refl _,fun j hj=>match j,hj with|0,_=>(Le.refl _) ⟩,⟨rfl,Nat.le_refl _,fun j hj=>match j,hj with|0,_=>(Le.refl _) ⟩,⟨rfl,Nat.le_refl _,fun j hj=>match j,hj with|0,_=>(Le.fn (fun i hi=>absurd hi (by omega)) (fun i hi=>match i,hi with|0,_=>(Le.refl _)|1,_=>(Le.refl _)|2,_=>(Le.refl _)|3,_=>(Le.refl _)|4,_=>(Le.refl _) )) ⟩,⟨rfl,Nat.le_refl _,fun j hj=>match j,hj with|0,_=>(Le.refl _)|1,_=>(Le.refl _) ⟩,trivial⟩) (by exact⟨by omega,by omega,by omega,by omega,by omega,trivial⟩) (by exact⟨az (by exact trivial),az (by exact trivial),Le.refl _,Le.refl _,Le.refl _,Le.refl _,Le.refl _,trivial⟩) (by exact aC (by exact trivial)) (by exact⟨⟨rfl,Nat.le_refl _,fun j hj=>match j,hj with|0,_=>(Le.refl _)|1,_=>(Le.refl _) ⟩,⟨rfl,Nat.le_refl _,fun j hj=>match j,hj with|0,_=>(Le.refl _) ⟩,LeO.rflc,LeO.rflc,⟨rfl,Nat.le_refl _,fun j hj=>match j,hj with|0,_=>(Le.refl _) ⟩,LeO.rflc,⟨rfl,Nat.le_refl _,fun j hj=>match j,hj with|0,_=>(Le.fn (fun i hi=>absurd hi (by omega)) (fun i hi=>match i,hi with|0,_=>(Le.refl _)|1,_=>(Le.refl _)|2,_=>(Le.refl _)|3,_=>(Le.refl _)|4,_=>(Le.refl _) )) ⟩,⟨rfl,Nat.le_refl _,fun j hj=>(by first|exact aC (by first|exact trivial|apply fX)|exact Le.of_eq (jt rfl))⟩,trivial⟩))⟩,by omega,?_⟩⟩⟩
 ·intro hp' g' hs'
  exact⟨rfl,i5 [2] (fun R g=>hS R g) (by exact⟨rfl,trivial⟩) rfl (by exact fun n=>⟨LeO.cells (fun j hj=>(cM trivial).symm),trivial⟩) ⟨by omega,trivial⟩ (by exact fun n=>⟨Le.refl _,Le.refl _,Le.refl _,trivial⟩) rfl (by exact fun n=>Le.refl _) (by exact fun n=>⟨LeO.cells (fun j hj=>cM trivial),trivial⟩) hp' g' hs'⟩
 ·intro hp' g' hs'
  exact⟨rfl,i5 [2] (fun R g=>hS2 R g) (by exact⟨rfl,trivial⟩) rfl (by exact fun n=>⟨LeO.cells (fun j hj=>(cM trivial).symm),trivial⟩) ⟨by omega,trivial⟩ (by exact fun n=>⟨Le.refl _,Le.refl _,Le.refl _,trivial⟩) rfl (by exact fun n=>Le.refl _) (by exact fun n=>⟨LeO.cells (fun j hj=>cM trivial),trivial⟩) hp' g' hs'⟩
 ·subst hm0
  show bv Tryd.prog R 0 _ _ _ _ .ret _
  refine dB (.tup 2 (nth [.ow true 7 L.length 1,.int .i64 0])) _ rfl trivial (e9 0 [(0,.tup 2 (nth [a8 L.length (fun i=>ah (L.getD i 0)),.int .i64 0]))] (Nat.le_refl _) (Nat.zero_le _) (fun i hi=>absurd hi (Nat.not_lt_zero i)) ⟨aF.tup (fun j hj=>?_),trivial⟩)
  match j,hj with
  |0,_=>exact aF.le (aF.ow (o:=7) (N:=L.length*1) (c:=aI L) (get:=aI L) (fr:=false) rfl (Nat.zero_le _) (Nat.le_refl _) (by decide) (fun j _=>aF.below (fX _ _))) (Le.fz rfl (fun i j hi hj=>by
    show aI L (i*1+j)=_
    rw[show i*1+j=i by omega]
    rfl))
  |1,_=>exact aF.below trivial
theorem x8 (R:Res)[Tab LT R](p:Prg)(most:Nat)(hb:aJ p=true)(hm:1<=most/\most<=100)(hO:(aG (dG p)).length<=10)(g:R.σ):Does Tryd.prog R 27 [au p,.int .i64 most] [] g (.ret (.tup 2 (nth [a8 (stP p most).length (fun i=>ah ((stP p most).getD i 0)),.int .i64 0]))) [] g:=by
 by_cases hN:stP p most=[]
 ·rw[hN]
  exact e7 (xZ R p most hb hm hO hN g) (bc ⟨Le.tup (fun j hj=>match j,hj with|0,_=>Le.nil_auto|1,_=>Le.refl _),trivial⟩ trivial rfl)
 ·exact x7 R p most hb hm hO hN g
end Go.Avm.Pack
