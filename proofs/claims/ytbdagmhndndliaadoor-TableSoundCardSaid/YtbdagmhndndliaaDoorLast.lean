/- TableSound returns true, and leaves its arguments as they were. No conditions: every input that can be read as data. -/
import Derived.Test.YtbdagmhndndliaaDoorM5
namespace Go.Avm.Pack
open Go Go.Avm Go.Proofs
open Go.IntKind (i64 u64)
open Go.Avm.AV (int bool any fz fp sl ow ref fn ifc val agg tup)
open Go.Avm.AObj (cells dead)
open Go.Avm.Oc (ret)
set_option maxRecDepth 4000
def itB (D:List Bool->List Bool × Bool):Nat->List Bool->List Bool
 |0,s=>s
 |k+1,s=>if (D s).2 then itB D k (D s).1 else s
structure ItOk (D:List Bool->List Bool × Bool)(n:Nat)(T:List Bool)(x:List Bool × Bool):Prop where
 len:x.1.length=n
 go:x.2=true->∃f,cm x.1<f/\itB D f x.1=T
 stop:x.2=false->x.1=T
theorem Az {D:List Bool->List Bool × Bool}{n:Nat}{T s:List Bool}(hD:HgS (s,false) (D s))(h:ItOk D n T (s,true)):ItOk D n T (D s)/\(if (D s).2 then cm (D s).1+1 else 0)<cm s+1:=by
 obtain⟨h1,h2,_⟩:=h
 obtain⟨f,f1,f2⟩:=h2 rfl
 have f1:cm s<f:=f1
 have h1:s.length=n:=h1
 obtain⟨c1,c2,c3,c4,c5,c6⟩:=hD
 obtain⟨f,rfl⟩:∃k,f=k+1:=⟨f-1,omg⟩
 have f3:(if (D s).2 then itB D f (D s).1 else s)=T:=f2
 refine⟨⟨c1.trans h1,fun h=>⟨f,?_,?_⟩,fun h=>?_⟩,?_⟩
 ·have:cm (D s).1<cm s:=c5 h rfl
  omega
 ·rw[if_pos h] at f3
  exact f3
 ·rw[if_neg (by rw[h];decide)] at f3
  exact(c6 h).trans f3
 ·split
  ·rename_i h
   have:cm (D s).1<cm s:=c5 h rfl
   omega
  ·omega
def foL (set out:List Bool)(l:Lit):Bool:=l.neg && !set.getD l.atom.toNat false || !l.neg&&out.getD l.atom.toNat false
def foB (set out:List Bool)(r:Rule)(k:Nat):Bool:= !out.getD r.head.toNat false&&(r.body.l.take k).all (foL set out)
def foU (set:List Bool)(x:List Bool × Bool)(r:Rule):List Bool × Bool:=if foB set x.1 r r.body.l.length then(x.1.set r.head.toNat true,true) else x
def foD (p:Prg)(set s:List Bool):List Bool × Bool:=p.rules.l.foldl (foU set) (s,false)
def foR (p:Prg)(set:List Bool)(n:Nat):List Bool:=itB (foD p set) (n+1) (List.replicate n false)
theorem tu {set:List Bool}{x:List Bool × Bool}{r:Rule}(h:r.head.toNat<x.1.length):HgS x (foU set x r):=by
 unfold foU
 by_cases hb:foB set x.1 r r.body.l.length=true
 ·rw[if_pos hb]
  have h0:x.1.getD r.head.toNat false=false:=by
   unfold foB at hb
   rw[Bool.and_eq_true] at hb
   simpa using hb.1
  have:=z3 h h0
  exact⟨List.length_set,fun k hk=>z4 hk,fun _=>rfl,by show cm (x.1.set _ true)<=_;omega,fun _ _=>by show cm (x.1.set _ true)<_;omega,fun h=>by cases h⟩
 ·rw[if_neg hb];exact HgS.refl x
theorem iX {set:List Bool}:∀{l:List Rule} {x:List Bool × Bool},(∀r,r∈l->r.head.toNat<x.1.length)->HgS x (l.foldl (foU set) x)
 |[],x,_=>HgS.refl x
 |r::l,x,h=>by
  have h1:=tu (set:=set) (x:=x) (h r List.mem_cons_self)
  exact h1.trans (iX (fun q hq=>by rw[h1.len];exact h q (List.mem_cons_of_mem _ hq)))
theorem mf {D:List Bool->List Bool × Bool}{n:Nat}(hD:∀s,s.length=n->(D s).1.length=n):∀{k:Nat} {s:List Bool},s.length=n->(itB D k s).length=n
 |0,_,h=>h
 |k+1,s,h=>by
  show(if (D s).2 then itB D k (D s).1 else s).length=n
  split
  ·exact mf hD (hD s h)
  ·exact h
theorem AA {set out:List Bool}{r:Rule}{k:Nat}(h:k<r.body.l.length):foB set out r (k+1)=(foB set out r k&&foL set out (r.body.l.getD k default)):=by
 unfold foB
 have e:r.body.l.getD k default=r.body.l[k]:=by rw[List.getD_eq_getElem?_getD,List.getElem?_eq_getElem h];rfl
 rw[List.take_add_one,List.all_append,List.getElem?_eq_getElem h,e]
 show(_&&(_&&(foL set out r.body.l[k]&&true)))=_
 rw[Bool.and_true,Bool.and_assoc]
theorem tv (R:Res)(p:Prg)(set:List Bool)(n:Nat)(hn:0<n/\n<=1000)(hset:set.length=n)(hpa:p.atoms=n)(hpl:p.rules.l.length<1000000)(hr:∀r,r∈p.rules.l->l5 n r)(g:R.σ):Does Tryd.prog R 38 [av p,eB set] [] g (.ret (.ow true 0 n 1)) [cO (n*1) (aI (foR p set n))] g:=by
 have hroom:aC=140737488355328:=rfl
 have hrh:∀r,r∈p.rules.l->r.head.toNat<n:=fun r h=>by have:=(hr r h).2;omega
 have hDl:∀s,s.length=n->HgS (s,false) (foD p set s):=fun s hs=>iX (fun r h=>by rw[show(s,false).1.length=n from hs];exact hrh r h)
 have hRl:(foR p set n).length=n:=mf (fun s hs=>(hDl s hs).len.trans hs) List.length_replicate
 refine spW (nt:=77) (rs:=[.tmp 4]) (k0:=0) ?_
 refine vcR [] (lkL [(0,[1,2]),(1,[1,2,5]),(2,[1,2,5,6])]) (fun _=>[]) (fun Q=>1<=2/\0<=p.atoms/\p.atoms<=p.atoms/\p.atoms<=140737488355328/\Int.toNat p.atoms*1<=aC/\WpC Tryd.prog R 77 0 38 [1,1,0,1,0] Q [Kont.blk 0,Kont.seq [1,1,1]] (St.mk [(1,fz Fz.auto 1 (List.length set) fun i x=>aI set i),(2,ref 0 0),(5,sl 1 0 (Int.toNat p.atoms) (Int.toNat p.atoms) true 1),(6,AV.bool true)] [cO 2 (nth [i6 p.atoms,ad p.rules]),cO (Int.toNat p.atoms*1) fun j=>AV.bool false] g)) ⟨omg,omg,omg,omg,omg,?_⟩
 rw[show p.atoms.toNat=n by omega]
 have hs0:(List.replicate n false).length=n:=List.length_replicate
 refine b9 (toL (s':=⟨[(1,eB set),(2,.ref 0 0),(5,.ow true 1 n 1),(6,.bool true)],[cO 2 (nth [.int .i64 p.atoms,ad p.rules]),cO (n*1) (aI (List.replicate n false))],g⟩) (h1:=?_) (h2:=?_)) ?_
 ·exact⟨Bs _,Bs _,BB omg,Bs _,trivial⟩
 ·exact⟨Bv _,⟨rfl,Nat.le_refl _,fun j _=>Bt zR.symm⟩,trivial⟩
 refine(a9 krf (fun (x:List Bool × Bool)=>⟨[(1,fz Fz.auto 1 (set.length) fun (i x:Nat)=>aI set i),(2,ref 0 0),(5,ow true 1 n 1),(6,.bool x.2)],[cO 2 (nth [.int .i64 p.atoms,ad p.rules]),cO (n*1) (aI x.1)],g⟩) (fun (x:List Bool × Bool)=>(ItOk (foD p set) n (foR p set n) x)) (fun (x:List Bool × Bool)=>(if x.2 then cm x.1+1 else 0)) (List.replicate n false,true) (aT ⟨Bs _,Bs _,Bs _,Bs _,trivial⟩ rfl rfl) ?_ (fun x hi=>?_))
 ·exact⟨hs0,fun _=>⟨n+1,Nat.lt_succ_of_le (by have:=List.count_le_length (a:=false) (l:=List.replicate n false);rw[hs0] at this;exact this),rfl⟩,fun h=>by cases h⟩
 ·obtain⟨s,ch⟩:=x
  have hok:=hi
  obtain⟨h1,h2,h3⟩:=hi
  simp only at h1 h2 h3
  cases ch with
  |false=>
   rw[h3 rfl]
   refine vcR [[1,1,0,1,0,0,0,1,0]] (lkL [(3,[1,2,5,15])]) (fun _=>[]) (fun Q=>(fun (u1:St R.σ)=>(false=true->WpC Tryd.prog R 77 0 38 [1,1,0,1,0,0,0,1,0] Q [Kont.seq [1,1,0,1,0,0,1]] u1)/\(false=false->Q (AEx.exit 0) u1)) (St.mk [(1,fz Fz.auto 1 (List.length set) fun i x=>aI set i),(2,ref 0 0),(5,ow true 1 n 1),(15,AV.bool false)] [cO 2 (nth [i6 p.atoms,ad p.rules]),cO (n*1) fun a=>aI (foR p set n) a] g)) ⟨fun h=>(nomatch h),fun _=>?_⟩
   refine⟨_,BE _,vcR [] (lkL [(18,[4])]) (fun _=>[]) (fun (Q:AEx->St R.σ->Prop)=>Q AEx.ret (St.mk [(4,ow true 1 n 1)] [cO 2 (nth [i6 p.atoms,ad p.rules]),cO (n*1) fun (a:Nat)=>aI (foR p set n) a] g)) (?_)⟩
   show bC Tryd.prog R 0 _ _ _ _ .ret _
   exact ff (.ow true 1 n 1) _ rfl trivial (toS (s':=⟨[(0,.ow true 0 n 1)],[cO (n*1) (aI (foR p set n))],g⟩) [1] 2 (hob:=⟨Bv _,trivial⟩))
  |true=>
   have hnx:=Az (hDl s h1) hok
   refine vcR [[1,1,0,1,0,0,0,1,1]] (lkL [(3,[1,2,5,15]),(4,[1,2,5,6]),(5,[1,2,5,6,7])]) (fun _=>[]) (fun Q=>(fun (u1:List AObj)=>(fun (u2:AV)=>(true=true->WpC Tryd.prog R 77 0 38 [1,1,0,1,0,0,1,0,1,1,0] Q [Kont.blk 2,Kont.blk 1] (St.mk [(1,u2),(2,ref 0 0),(5,ow true 1 n 1),(6,AV.bool false),(7,i6 0)] u1 g))/\(true=false->WpC Tryd.prog R 77 0 38 [1,1,0,1,0,0,0,1,1] Q [Kont.seq [1,1,0,1,0,0,1]] (St.mk [(1,u2),(2,ref 0 0),(5,ow true 1 n 1),(15,AV.bool true)] u1 g))) (fz Fz.auto 1 (List.length set) fun i x=>aI set i)) ([cO 2 (nth [i6 p.atoms,ad p.rules]),cO (n*1) fun a=>aI s a])) ⟨fun _=>?_,fun h=>(nomatch h)⟩
   refine(a9 krf (fun (i:Nat)=>⟨[(1,fz Fz.auto 1 (set.length) fun (i x:Nat)=>aI set i),(2,ref 0 0),(5,ow true 1 n 1),(6,.bool ((p.rules.l.take i).foldl (foU set) (s,false)).2),(7,.int .i64 i)],[cO 2 (nth [.int .i64 p.atoms,ad p.rules]),cO (n*1) (aI ((p.rules.l.take i).foldl (foU set) (s,false)).1)],g⟩) (fun (i:Nat)=>(i<=p.rules.l.length)) (fun (i:Nat)=>(p.rules.l.length-i)) 0 (aT ⟨Bs _,Bs _,Bs _,Bs _,(Bt krf),trivial⟩ rfl rfl) ?_ (fun i hi=>?_))
   ·exact Nat.zero_le _
   ·rcases Nat.lt_or_ge i p.rules.l.length with hlt|hge
    ·have hm:=hr _ (fl hlt)
     have hm1:=hm.1
     have hm2:=hm.2
     have hbl:=hm1.1
     have hst:=iV (foU set) (s,false) p.rules.l default hlt
     have hyl:=(iX (set:=set) (l:=p.rules.l.take i) (x:=(s,false)) (fun r h=>by rw[show(s,false).1.length=n from h1];exact hrh r (List.mem_of_mem_take h))).len
     obtain⟨y,hy⟩:∃y,(p.rules.l.take i).foldl (foU set) (s,false)=y:=⟨_,rfl⟩
     rw[hy] at hst hyl ⊢
     have hyl:y.1.length=n:=hyl.trans h1
     obtain⟨t,b⟩:=y
     have hyl:t.length=n:=hyl
     have hB0:foB set t (p.rules.l.getD i default) 0 = !t.getD (p.rules.l.getD i default).head.toNat false:=Bool.and_true _
     refine vcR [] (lkL [(6,[1,2,5,6,7,20]),(8,[1,2,5,6,7,8]),(9,[1,2,5,6,7,8,9]),(10,[1,2,5,6,7,8,9,10])]) (lkL [(8,[(6,ROrc.val (Orc.obj (nth [i6 (List.getD p.rules.l i default).head,am (List.getD p.rules.l i default).body])))])]) (fun Q=>(fun (u1:Rule)=>(fun (u2:Int)=>(fun (u3:Int)=>(fun (u4:List AV)=>(fun (u5:AV)=>(fun (u6:AObj)=>2<=2/\(decide (u3<u2)=true->2<=2/\(0<=u3/\u3<u2)/\2<=2/\2<=2/\(∀(c:Nat),c<2->nth u4 c=al (nth [i6 0,fz Fz.nil 0 0 fun x x_1=>any]) 0 2 (List.brecOn (motive:=fun (x:List AV)=>Nat->AV) u4 nth._f) c)/\1<=2/\(0<=u1.head/\u1.head<(↑n:Int))/\Int.toNat u1.head+1<=n*1/\WpC Tryd.prog R 77 0 38 [1,1,0,1,0,0,1,0,1,1,0,0,1,0,0,1,1,0,1,0] Q [Kont.blk 4,Kont.seq [1,1,0,1,0,0,1,0,1,1,0,0,1,0,0,1,1,1],Kont.blk 3,Kont.seq [1,1,0,1,0,0,1,0,1,1,0,0,1,1]] (St.mk [(1,u5),(2,ref 0 0),(5,ow true 1 n 1),(6,AV.bool b),(7,i6 u3),(8,ref 2 0),(9,AV.bool !List.getD t (Int.toNat u1.head) false),(10,i6 0)] [u6,cO (n*1) fun a=>aI t a,cO 2 (nth u4)] g))/\(decide (u3<u2)=false->Q (AEx.exit 2) (St.mk [(1,u5),(2,ref 0 0),(5,ow true 1 n 1),(6,AV.bool b),(7,i6 u3),(20,AV.bool (decide (u3<u2)))] [u6,cO (n*1) fun a=>aI t a] g))) (cO 2 (nth [i6 p.atoms,ad p.rules]))) (fz Fz.auto 1 (List.length set) fun i x=>aI set i)) ([i6 u1.head,am u1.body])) ((↑i:Int))) ((↑(List.length p.rules.l):Int))) (List.getD p.rules.l i default)) ⟨omg,fun c1=>have c1:(↑i:Int)<(↑(List.length p.rules.l):Int):=(of_decide_eq_true c1);⟨omg,omg,omg,omg,(fun c hc=>match c,hc with|0,_=>krf|1,_=>krf ),omg,omg,omg,?_⟩,fun c1=>have c1:¬(↑i:Int)<(↑(List.length p.rules.l):Int):=(of_decide_eq_false c1);?_⟩
     ·refine(a9 krf (fun (k:Nat)=>⟨[(1,fz Fz.auto 1 (set.length) fun (i x:Nat)=>aI set i),(2,ref 0 0),(5,ow true 1 n 1),(6,AV.bool b),(7,i6 (i:Int)),(8,ref 2 0),(9,.bool (foB set t (p.rules.l.getD i default) k)),(10,.int .i64 k)],[cO 2 (nth [i6 p.atoms,ad p.rules]),cO (n*1) fun (a:Nat)=>aI t a,cO 2 (nth [i6 (p.rules.l.getD i default).head,am (p.rules.l.getD i default).body])],g⟩) (fun (k:Nat)=>(k<=(p.rules.l.getD i default).body.l.length)) (fun (k:Nat)=>((p.rules.l.getD i default).body.l.length-k)) 0 (aT ⟨Bs _,Bs _,Bs _,Bs _,Bs _,Bs _,(Bt ?_),(Bt krf),trivial⟩ rfl rfl) ?_ (fun k hi=>?_))
      ·show AV.bool _=AV.bool _
       rw[hB0]
      ·exact Nat.zero_le _
      ·rcases Nat.lt_or_ge k (p.rules.l.getD i default).body.l.length with hk|hk
       ·have hml:=hm1.2 _ (bO (p.rules.l.getD i default).body.l default hk)
        have hBs:=AA (set:=set) (out:=t) (r:=p.rules.l.getD i default) hk
        refine vcR [] (lkL [(11,[1,2,5,6,7,8,9,10,38]),(13,[1,2,5,6,7,8,9,10,11]),(14,[1,2,5,6,7,8,9,10]),(12,[1,2,5,6,7,8,9,10])]) (lkL [(13,[(6,ROrc.val (Orc.obj (nth [i6 (List.getD (List.getD p.rules.l i default).body.l k default).atom,AV.bool (List.getD (List.getD p.rules.l i default).body.l k default).neg])))])]) (fun Q=>(fun (u1:Lit)=>(fun (u2:Rule)=>(fun (u3:Bool)=>(fun (u4:Int)=>(fun (u5:Int)=>(fun (u6:Bool)=>(fun (u7:AV)=>(fun (u8:List AV)=>(fun (u9:AObj)=>(fun (u10:AObj)=>2<=2/\(decide (u5<u4)=true->2<=2/\(0<=u5/\u5<u4)/\2<=2/\2<=2/\(∀(c:Nat),c<2->nth u8 c=al (nth [i6 0,AV.bool false]) 0 2 (List.brecOn (motive:=fun (x:List AV)=>Nat->AV) u8 nth._f) c)/\(u6=true->2<=2)/\((u6&&u1.neg)=true->1<=2)/\((u6&&u1.neg)=true->0<=u1.atom/\u1.atom<(↑(List.length set):Int))/\((u6&&u1.neg)=true->1<=1)/\((u6 && !u3)=true->2<=2)/\((u6 && !u3 && !u1.neg)=true->1<=2)/\((u6 && !u3 && !u1.neg)=true->0<=u1.atom/\u1.atom<(↑n:Int))/\((u6 && !u3 && !u1.neg)=true->Int.toNat u1.atom+1<=n*1)/\(-9223372036854775808<=u5+1/\u5+1<=9223372036854775807)/\Q AEx.normal (St.mk [(1,u7),(2,ref 0 0),(5,ow true 1 n 1),(6,AV.bool b),(7,i6 (↑i:Int)),(8,ref 2 0),(9,AV.bool (bif u6 then bif u3 then true else bif !u1.neg then List.getD t (Int.toNat u1.atom) false else false else false)),(10,i6 (u5+1))] [u9,cO (n*1) fun a=>aI t a,u10,cO 2 (nth u8)] g))/\(decide (u5<u4)=false->Q (AEx.exit 4) (St.mk [(1,u7),(2,ref 0 0),(5,ow true 1 n 1),(6,AV.bool b),(7,i6 (↑i:Int)),(8,ref 2 0),(9,AV.bool u6),(10,i6 u5),(38,AV.bool (decide (u5<u4)))] [u9,cO (n*1) fun a=>aI t a,u10] g))) (cO 2 (nth [i6 u2.head,am u2.body]))) (cO 2 (nth [i6 p.atoms,ad p.rules]))) ([i6 u1.atom,AV.bool u1.neg])) (fz Fz.auto 1 (List.length set) fun i x=>aI set i)) (foB set t u2 k)) ((↑k:Int))) ((↑(List.length u2.body.l):Int))) (bif u1.neg then !List.getD set (Int.toNat u1.atom) false else false)) (List.getD p.rules.l i default)) (List.getD (List.getD p.rules.l i default).body.l k default)) ⟨omg,fun c1=>have c1:(↑k:Int)<(↑(List.length (List.getD p.rules.l i default).body.l):Int):=(of_decide_eq_true c1);⟨omg,omg,omg,omg,(fun c hc=>match c,hc with|0,_=>krf|1,_=>krf ),omg,omg,omg,omg,omg,omg,omg,omg,omg,?_⟩,fun c1=>have c1:¬(↑k:Int)<(↑(List.length (List.getD p.rules.l i default).body.l):Int):=(of_decide_eq_false c1);?_⟩
        ·refine(aO (k+1) (toS [0,1,2] 4 (hfr:=⟨Bs _,Bs _,Bs _,Bs _,Bs _,Bs _,Bt ?_,Bs _,trivial⟩) (hob:=⟨⟨rfl,Nat.le_refl _,fun j hj=>match j,hj with|0,_=>(Bs _)|1,_=>(Bs _) ⟩,?_,⟨rfl,Nat.le_refl _,fun j hj=>match j,hj with|0,_=>(Bs _)|1,_=>(Bs _) ⟩,trivial⟩)) ?_ ?_)
         ·show AV.bool _=AV.bool _
          rw[hBs]
          unfold foL
          cases foB set t (p.rules.l.getD i default) k <;> cases ((p.rules.l.getD i default).body.l.getD k default).neg <;> simp
         ·exact⟨rfl,Nat.le_refl _,fun j _=>Bt rfl⟩
         ·omega
         ·omega
        ·exfalso;omega
       ·have hke:k=(p.rules.l.getD i default).body.l.length:=by omega
        subst hke
        have hbb:decide (((p.rules.l.getD i default).body.l.length:Int)<((p.rules.l.getD i default).body.l.length:Int))=false:=decide_eq_false omg
        have hst:(p.rules.l.take (i+1)).foldl (foU set) (s,false)=if foB set t (p.rules.l.getD i default) (p.rules.l.getD i default).body.l.length then(t.set (p.rules.l.getD i default).head.toNat true,true) else(t,b):=hst
        refine vcR [[1,1,0,1,0,0,1,0,1,1,0,0,1,0,0,1,1,0,1,0,0,0,1,0]] (lkL [(11,[1,2,5,6,7,8,9,10,38])]) (fun _=>[]) (fun Q=>(fun (u1:Int)=>(fun (u2:St R.σ)=>2<=2/\(decide (u1<u1)=true->WpC Tryd.prog R 77 0 38 [1,1,0,1,0,0,1,0,1,1,0,0,1,0,0,1,1,0,1,0,0,0,1,0] Q [Kont.seq [1,1,0,1,0,0,1,0,1,1,0,0,1,0,0,1,1,0,1,0,0,1]] u2)/\(decide (u1<u1)=false->Q (AEx.exit 4) u2)) (St.mk [(1,fz Fz.auto 1 (List.length set) fun i x=>aI set i),(2,ref 0 0),(5,ow true 1 n 1),(6,AV.bool b),(7,i6 (↑i:Int)),(8,ref 2 0),(9,AV.bool (foB set t (List.getD p.rules.l i default) (List.length (List.getD p.rules.l i default).body.l))),(10,i6 u1),(38,AV.bool (decide (u1<u1)))] [cO 2 (nth [i6 p.atoms,ad p.rules]),cO (n*1) fun a=>aI t a,cO 2 (nth [i6 (List.getD p.rules.l i default).head,am (List.getD p.rules.l i default).body])] g)) ((↑(List.length (List.getD p.rules.l i default).body.l):Int))) ⟨omg,fun hcc=>(nomatch (hbb.symm.trans hcc)),fun _=>?_⟩
        refine⟨_,BE _,vcR [] (lkL [(15,[1,2,5,6,7,8,71]),(16,[1,2,5,7]),(17,[1,2,5,6,7])]) (fun _=>[]) (fun Q=>(fun (u1:Rule)=>(fun (u2:Bool)=>(fun (u3:AV)=>(fun (u4:AObj)=>(fun (u5:AObj)=>(u2=true->1<=2/\(0<=u1.head/\u1.head<(↑n:Int))/\Int.toNat u1.head+1<=n*1/\Q AEx.normal (St.mk [(1,u3),(2,ref 0 0),(5,ow true 1 n 1),(6,AV.bool true),(7,i6 (↑i:Int))] [u4,cO (n*1) (al (aI t) (Int.toNat u1.head) 1 fun x=>AV.bool true),u5] g))/\(u2=false->Q AEx.normal (St.mk [(1,u3),(2,ref 0 0),(5,ow true 1 n 1),(6,AV.bool b),(7,i6 (↑i:Int)),(8,ref 2 0),(71,AV.bool u2)] [u4,cO (n*1) fun a=>aI t a,u5] g))) (cO 2 (nth [i6 u1.head,am u1.body]))) (cO 2 (nth [i6 p.atoms,ad p.rules]))) (fz Fz.auto 1 (List.length set) fun i x=>aI set i)) (foB set t u1 (List.length u1.body.l))) (List.getD p.rules.l i default)) ⟨fun c1=>⟨omg,omg,omg,?_⟩,fun c1=>?_⟩⟩
        ·rw[if_pos c1] at hst
         refine vcR [] (lkL [(7,[1,2,5,6,7])]) (fun _=>[]) (fun Q=>(fun (u1:Rule)=>(-9223372036854775808<=(↑i:Int)+1/\(↑i:Int)+1<=9223372036854775807)/\Q AEx.normal (St.mk [(1,fz Fz.auto 1 (List.length set) fun i x=>aI set i),(2,ref 0 0),(5,ow true 1 n 1),(6,AV.bool true),(7,i6 ((↑i:Int)+1))] [cO 2 (nth [i6 p.atoms,ad p.rules]),cO (n*1) (al (aI t) (Int.toNat u1.head) 1 fun x=>AV.bool true),cO 2 (nth [i6 u1.head,am u1.body])] g)) (List.getD p.rules.l i default)) ⟨omg,?_⟩
         refine(aO (i+1) (toS [0,1] 3 (hfr:=⟨Bs _,Bs _,Bs _,Bt ?_,Bs _,trivial⟩) (hob:=⟨⟨rfl,Nat.le_refl _,fun j hj=>match j,hj with|0,_=>(Bs _)|1,_=>(Bs _) ⟩,?_,trivial⟩)) ?_ ?_)
         ·show AV.bool _=AV.bool _
          rw[hst]
         ·exact⟨rfl,Nat.le_refl _,fun j _=>by
           rw[hst]
           exact Bt (zQ omg)⟩
         ·omega
         ·omega
        ·rw[if_neg (by rw[c1];decide)] at hst
         refine vcR [] (lkL [(7,[1,2,5,6,7])]) (fun _=>[]) (fun Q=>(-9223372036854775808<=(↑i:Int)+1/\(↑i:Int)+1<=9223372036854775807)/\Q AEx.normal (St.mk [(1,fz Fz.auto 1 (List.length set) fun i x=>aI set i),(2,ref 0 0),(5,ow true 1 n 1),(6,AV.bool b),(7,i6 ((↑i:Int)+1))] [cO 2 (nth [i6 p.atoms,ad p.rules]),cO (n*1) fun a=>aI t a,cO 2 (nth [i6 (List.getD p.rules.l i default).head,am (List.getD p.rules.l i default).body])] g)) ⟨omg,?_⟩
         refine(aO (i+1) (toS [0,1] 3 (hfr:=⟨Bs _,Bs _,Bs _,Bt ?_,Bs _,trivial⟩) (hob:=⟨⟨rfl,Nat.le_refl _,fun j hj=>match j,hj with|0,_=>(Bs _)|1,_=>(Bs _) ⟩,?_,trivial⟩)) ?_ ?_)
         ·show AV.bool _=AV.bool _
          rw[hst]
         ·exact⟨rfl,Nat.le_refl _,fun j _=>by
           rw[hst]
           exact Bt (rfl)⟩
         ·omega
         ·omega
     ·exfalso;omega
    ·have hie:i=p.rules.l.length:=by omega
     subst hie
     rw[List.take_length]
     have hbb:decide ((p.rules.l.length:Int)<(p.rules.l.length:Int))=false:=decide_eq_false omg
     refine vcR [[1,1,0,1,0,0,1,0,1,1,0,0,0,1,0]] (lkL [(6,[1,2,5,6,7,20])]) (fun _=>[]) (fun Q=>(fun (u1:Int)=>(fun (u2:St R.σ)=>2<=2/\(decide (u1<u1)=true->WpC Tryd.prog R 77 0 38 [1,1,0,1,0,0,1,0,1,1,0,0,0,1,0] Q [Kont.seq [1,1,0,1,0,0,1,0,1,1,0,0,1]] u2)/\(decide (u1<u1)=false->Q (AEx.exit 2) u2)) (St.mk [(1,fz Fz.auto 1 (List.length set) fun i x=>aI set i),(2,ref 0 0),(5,ow true 1 n 1),(6,AV.bool (List.foldl (foU set) (s,false) p.rules.l).snd),(7,i6 u1),(20,AV.bool (decide (u1<u1)))] [cO 2 (nth [i6 p.atoms,ad p.rules]),cO (n*1) fun a=>aI (List.foldl (foU set) (s,false) p.rules.l).fst a] g)) ((↑(List.length p.rules.l):Int))) ⟨omg,fun hcc=>(nomatch (hbb.symm.trans hcc)),fun _=>?_⟩
     refine⟨_,BE _,(aO (foD p set s) (toL (h1:=⟨Bs _,Bs _,Bs _,(Bt krf),trivial⟩)) ?_ ?_)⟩
     ·exact hnx.1
     ·exact hnx.2
def oY (l:List Rule)(set:Nat->Bool)(m:Nat->Bool):Prop:=∀r,r∈l->(∀y,y∈r.body.l->(y.neg=true->set y.atom.toNat=false)/\(y.neg=false->m y.atom.toNat=true))->m r.head.toNat=true
theorem tw {set:List Bool}{l:List Rule}{m:Nat->Bool}(hm:oY l (fun j=>set.getD j false) m):∀{l':List Rule} {x:List Bool × Bool},(∀r,r∈l'->r∈l)->(∀j,x.1.getD j false=true->m j=true)->∀j,(l'.foldl (foU set) x).1.getD j false=true->m j=true
 |[],_,_,h=>h
 |r::l',x,hl,h=>by
  refine tw hm (l':=l') (x:=foU set x r) (fun q hq=>hl q (List.mem_cons_of_mem _ hq)) (fun j hj=>?_)
  unfold foU at hj
  split at hj
  ·rename_i hb
   rcases z5 hj with rfl|hj
   ·refine hm r (hl r List.mem_cons_self) (fun y hy=>?_)
    unfold foB at hb
    rw[Bool.and_eq_true,List.take_length,List.all_eq_true] at hb
    have h1:=hb.2 y hy
    unfold foL at h1
    refine⟨fun hng=>?_,fun hng=>?_⟩
    ·show set.getD y.atom.toNat false=false
     rw[hng] at h1
     simpa using h1
    ·rw[hng] at h1
     exact h _ (by simpa using h1)
   ·exact h j hj
  ·exact h j hj
theorem tx {D:List Bool->List Bool × Bool}{m:Nat->Bool}(hD:∀s,(∀j,s.getD j false=true->m j=true)->∀j,(D s).1.getD j false=true->m j=true):∀{k:Nat} {s:List Bool},(∀j,s.getD j false=true->m j=true)->∀j,(itB D k s).getD j false=true->m j=true
 |0,_,h=>h
 |k+1,s,h=>by
  show ∀j,(if (D s).2 then itB D k (D s).1 else s).getD j false=true->m j=true
  split
  ·exact tx hD (hD s h)
  ·exact h
theorem tz {D:List Bool->List Bool × Bool}{n:Nat}(hD:∀s,s.length=n->HgS (s,false) (D s)):∀{k:Nat} {s:List Bool},s.length=n->cm s<k->(D (itB D k s)).2=false
 |0,_,_,h=>absurd h (Nat.not_lt_zero _)
 |k+1,s,hs,h=>by
  show(D (if (D s).2 then itB D k (D s).1 else s)).2=false
  split
  ·rename_i hc
   have h1:=hD s hs
   have h2:cm (D s).1<cm s:=h1.less hc rfl
   exact tz hD (h1.len.trans hs) omg
  ·rename_i hc
   cases hb:(D s).2 with
   |false=>rfl
   |true=>exact absurd hb hc
theorem tC {set:List Bool}{n:Nat}:∀{l:List Rule} {x:List Bool × Bool},x.1.length=n->(∀r,r∈l->r.head.toNat<n)->(l.foldl (foU set) x).2=false->∀r,r∈l->foB set x.1 r r.body.l.length=false
 |[],_,_,_,_=>fun r hr=>by cases hr
 |r::l,x,hn,hl,h=>by
  have hrn:=hl r List.mem_cons_self
  have h1:=tu (set:=set) (x:=x) (r:=r) (by rw[hn];exact hrn)
  have hl2:∀q,q∈l->q.head.toNat<n:=fun q hq=>hl q (List.mem_cons_of_mem _ hq)
  have h2:=iX (set:=set) (l:=l) (x:=foU set x r) (fun q hq=>by rw[h1.len,hn];exact hl2 q hq)
  have hy:(foU set x r).2=false:=by
   cases hb:(foU set x r).2 with
   |false=>rfl
   |true=>
    have h3:=h2.ch hb
    have h:(l.foldl (foU set) (foU set x r)).2=false:=h
    rw[h] at h3
    cases h3
  have hs:=h1.same hy
  intro q hq
  rcases List.mem_cons.1 hq with rfl|hq
  ·cases hb:foB set x.1 q q.body.l.length with
   |false=>rfl
   |true=>
    unfold foU at hy
    rw[if_pos hb] at hy
    cases hy
  ·have:=tC (x:=foU set x r) (h1.len.trans hn) hl2 h q hq
   rw[hs] at this
   exact this
theorem oZ {p:Prg}{set:List Bool}{n:Nat}(hr:∀r,r∈p.rules.l->r.head.toNat<n):oY p.rules.l (fun j=>set.getD j false) (fun j=>(foR p set n).getD j false):=by
 have hD:∀s,s.length=n->HgS (s,false) (foD p set s):=fun s hs=>iX (fun r h=>by rw[show(s,false).1.length=n from hs];exact hr r h)
 have h0:(List.replicate n false).length=n:=List.length_replicate
 have hst:=tz hD (k:=n+1) h0 (Nat.lt_succ_of_le (by have:=List.count_le_length (a:=false) (l:=List.replicate n false);rw[h0] at this;exact this))
 have hlen:(foR p set n).length=n:=mf (fun s hs=>(hD s hs).len.trans hs) h0
 intro r h hy
 have h1:=tC (set:=set) (x:=(foR p set n,false)) hlen hr hst r h
 show(foR p set n).getD r.head.toNat false=true
 cases hb:(foR p set n).getD r.head.toNat false with
 |true=>rfl
 |false=>
  exfalso
  have h1:foB set (foR p set n) r r.body.l.length=false:=h1
  unfold foB at h1
  rw[hb,List.take_length,Bool.not_false,Bool.true_and] at h1
  obtain⟨y,h2,h3⟩:=List.all_eq_false.1 h1
  obtain⟨h4,h5⟩:=hy y h2
  refine h3 ?_
  unfold foL
  cases hng:y.neg with
  |true=>
   have:set.getD y.atom.toNat false=false:=h4 hng
   rw[this]
   rfl
  |false=>
   have:(foR p set n).getD y.atom.toNat false=true:=h5 hng
   rw[this]
   rfl
def mg (n s:Nat):List Bool:=(List.range n).map fun j=>s.testBit j
structure ModC (p:Prg)(most n:Nat)(r:List Int):Prop where
 nn:∀(R:Res) (s:Nat) (g:R.σ),s<2^n->stF p most r s []=[]->Does Tryd.prog R 81 [av p,eB (mg n s),ah ⟨r,.may⟩,.int .i64 most,.fz .nil 0 0 (fun _ _=>.any)] [] g (.ret (.fz .nil 0 0 (fun _ _=>.any))) [] g
 nw:∀(R:Res) (s m:Nat) (L:List Nat) (g:R.σ),s<2^n->stF p most r s []=L->L≠[]->m=L.length->Does Tryd.prog R 81 [av p,eB (mg n s),ah ⟨r,.may⟩,.int .i64 most,.fz .nil 0 0 (fun _ _=>.any)] [] g (.ret (.ow true 0 m 1)) [cO (m*1) (aM L)] g
 on:∀(R:Res) (s m:Nat) (L:List Nat) (g:R.σ),s<2^n->L≠[]->m=L.length->m<=most->stF p most r s L=L->Does Tryd.prog R 81 [av p,eB (mg n s),ah ⟨r,.may⟩,.int .i64 most,.ow true 0 m 1] [cO (m*1) (aM L)] g (.ret (.ow true 0 m 1)) [cO (m*1) (aM L)] g
 ow:∀(R:Res) (s m m':Nat) (L L':List Nat) (g:R.σ),s<2^n->L≠[]->m=L.length->m<=most->stF p most r s L=L'->m'=L'.length->m≠m'->Does Tryd.prog R 81 [av p,eB (mg n s),ah ⟨r,.may⟩,.int .i64 most,.ow true 0 m 1] [cO (m*1) (aM L)] g (.ret (.ow true 1 m' 1)) [.dead,cO (m'*1) (aM L')] g
def o8 (b:Nat->Bool)(i:Nat):Nat->AV:=fun j=>.bool (decide (j<i)&&b j)
theorem ru {k:Nat}(b:Nat->Bool)(i j:Nat):Below k (o8 b i j):=trivial
theorem rF {f:Nat->Nat}(h:True){b:Nat->Bool}{i j:Nat}:aK f (o8 b i j)=o8 b i j:=rfl
theorem o9 {p:Prg}{set:List Bool}{n:Nat}{m:Nat->Bool}(hm:oY p.rules.l (fun j=>set.getD j false) m):∀j,(foR p set n).getD j false=true->m j=true:=
 tx (fun _ hs=>tw hm (fun _ h=>h) hs) (fun j h=>by
  have:(List.replicate n false).getD j false=false:=by
   rw[List.getD_eq_getElem?_getD,List.getElem?_replicate]
   split <;> rfl
  rw[this] at h
  cases h)
theorem tD {p:Prg}{set:List Bool}{n:Nat}(hr:∀r,r∈p.rules.l->r.head.toNat<n):(foR p set n).length=n:=
 mf (fun s' hs=>((iX (l:=p.rules.l) (set:=set) (x:=(s',false)) (fun r h=>by rw[show(s',false).1.length=n from hs];exact hr r h)).len).trans hs) List.length_replicate
structure Set2 (p:Prg)(v:Nat->Int):Prop where
 dom:∀a,v a=1∨v a=2∨v a=3
 rng:∀a,v a≠3->a<p.atoms.toNat
 yes:∃(rk:Nat->Nat) (N:Nat),∀a,v a=2->rk a<N/\∃r,r∈p.rules.l/\r.head.toNat=a/\co v r=true/\∀l,l∈r.body.l->l.neg=false->rk l.atom.toNat<rk a
 no:∀a,v a=1->∀r,r∈p.rules.l->r.head.toNat=a->∃l,l∈r.body.l/\bh v l=1
theorem mh {v w:Nat->Int}{l:Lit}(hk:∀a,v a≠3->w a=v a)(h:bh v l≠3):bh w l=bh v l:=by
 have h3:v l.atom.toNat≠3:=fun e=>h (by unfold bh;rw[e];simp)
 unfold bh
 rw[hk _ h3]
theorem fV {v:Nat->Int}{r:Rule}:co v r=true↔∀l,l∈r.body.l->bh v l=2:=by
 unfold co
 rw[Bool.not_eq_true',List.any_eq_false]
 constructor
 ·intro h l hl
  have:=h l hl
  simpa using this
 ·intro h l hl
  simp[h l hl]
theorem pc {v w:Nat->Int}{r:Rule}(hk:∀a,v a≠3->w a=v a)(h:co v r=true):co w r=true:=
 fV.2 (fun l hl=>by
  have:=fV.1 h l hl
  rw[mh hk (by rw[this];decide),this])
theorem kn {v:Nat->Int}{l:Lit}(hd:∀a,v a=1∨v a=2∨v a=3):bh v l=2↔(if l.neg then v l.atom.toNat=1 else v l.atom.toNat=2):=by
 unfold bh
 rcases hd l.atom.toNat with h|h|h <;> rw[h] <;> cases l.neg <;> simp
theorem tE {v:Nat->Int}{l:Lit}(hd:∀a,v a=1∨v a=2∨v a=3):bh v l=1↔(if l.neg then v l.atom.toNat=2 else v l.atom.toNat=1):=by
 unfold bh
 rcases hd l.atom.toNat with h|h|h <;> rw[h] <;> cases l.neg <;> simp
theorem AB (p:Prg):Set2 p (fun _=>3):=
 ⟨fun _=>.inr (.inr rfl),fun _ h=>absurd rfl h,⟨fun _=>0,0,fun _ h=>absurd h dcd⟩,fun _ h=>absurd h dcd⟩
theorem AC {p:Prg}{v:Nat->Int}(hp:bZ p)(hr:∀r,r∈p.rules.l->aE r)(hh:cG p)(h:Set2 p v)(hb:aU p v=true):Set2 p (bq v (aj p v))/\∀a,v a≠3->bq v (aj p v) a=v a:=by
 by_cases hf:0<=bf p v
 ·have hit:=gY (de v) default p.rules.l 0 hf
  obtain⟨k,hk,he,hq,_⟩:=hit
  have he:bf p v=(k:Nat):=by rw[show bf p v=aF (de v) p.rules.l 0 from rfl,he,Nat.zero_add]
  have hn:aj p v=⟨bf p v,[(p.rules.l.getD (bf p v).toNat default).head]⟩:=if_pos hf
  obtain⟨r,hrr⟩:∃r,p.rules.l.getD k default=r:=⟨_,rfl⟩
  have hrm:r∈p.rules.l:=by rw[<-hrr];exact fl hk
  rw[hrr] at hq
  have ha:bq v (aj p v)=cM v r.head.toNat 2:=by
   rw[hn,he]
   show(if ((k:Nat):Int) = -1 then _ else cM v (p.rules.l.getD (Int.toNat ((k:Nat):Int)) default).head.toNat 2)=_
   rw[if_neg omg,Int.toNat_natCast,hrr]
  rw[ha]
  unfold de at hq
  rw[Bool.and_eq_true,beq_iff_eq] at hq
  have hkeep:∀a,v a≠3->cM v r.head.toNat 2 a=v a:=fun a h3=>if_neg (fun e=>h3 (by rw[e];exact hq.1))
  have hself:cM v r.head.toNat 2 r.head.toNat=2:=if_pos rfl
  refine⟨⟨fun a=>?_,fun a h3=>?_,?_,fun a h1=>?_⟩,hkeep⟩
  ·unfold cM
   split
   ·exact .inr (.inl rfl)
   ·exact h.dom a
  ·by_cases e:a=r.head.toNat
   ·subst e
    have:=hh r hrm
    have:=(hr r hrm).2
    omega
   ·exact h.rng a (fun e3=>h3 (by unfold cM;rw[if_neg e];exact e3))
  ·obtain⟨rk,N,hrk⟩:=h.yes
   have hbody:=pc hkeep hq.2
   refine⟨fun a=>if a=r.head.toNat then N else rk a,N+1,fun a h2=>?_⟩
   dsimp only
   by_cases e:a=r.head.toNat
   ·subst e
    rw[if_pos rfl]
    refine⟨Nat.lt_succ_self _,r,hrm,rfl,hbody,fun l hl hneg=>?_⟩
    have h2':=(kn h.dom).1 (fV.1 hq.2 l hl)
    rw[hneg] at h2'
    have h2':v l.atom.toNat=2:=h2'
    rw[if_neg (fun e=>by rw[e,hq.1] at h2';cases h2')]
    exact(hrk _ h2').1
   ·have h2:v a=2:=by
     unfold cM at h2
     rw[if_neg e] at h2
     exact h2
    obtain⟨b1,q,b2,b3,b4,b5⟩:=hrk a h2
    rw[if_neg e]
    refine⟨omg,q,b2,b3,pc hkeep b4,fun l hl hneg=>?_⟩
    have h2':=(kn h.dom).1 (fV.1 b4 l hl)
    rw[hneg] at h2'
    have h2':v l.atom.toNat=2:=h2'
    rw[if_neg (fun e=>by rw[e,hq.1] at h2';cases h2')]
    exact b5 l hl hneg
  ·intro q hqm hqa
   by_cases e:a=r.head.toNat
   ·rw[e,hself] at h1
    cases h1
   ·have h1:v a=1:=by
     unfold cM at h1
     rw[if_neg e] at h1
     exact h1
    obtain⟨l,hl,h1l⟩:=h.no a h1 q hqm hqa
    exact⟨l,hl,by rw[mh hkeep (by rw[h1l];decide),h1l]⟩
 ·obtain⟨e1,_,_,e4,e5⟩:=j5 hp hf hb
  obtain⟨_,g2,g3⟩:=gX v hp
  have hgu:=z2 (f:=v) hp hr
  rw[e1] at e4
  have e4:bq v (aj p v)=cc v (gre p v):=by rw[e1,e4];show cc v (aV (bv (gre p v)))=_;rw[oy g3]
  rw[e4]
  have hopen:∀a,(gre p v).testBit a=true->a<p.atoms.toNat/\v a=3:=fun a ha=>by
   have:=g2 a ha
   rw[iT,Bool.and_eq_true,decide_eq_true_eq,decide_eq_true_eq] at this
   exact this
  have hkeep:∀a,v a≠3->cc v (gre p v) a=v a:=fun a h3=>if_neg (fun hb=>h3 (hopen a hb).2)
  refine⟨⟨fun a=>?_,fun a h3=>?_,?_,fun a h1=>?_⟩,hkeep⟩
  ·unfold cc
   split
   ·exact .inl rfl
   ·exact h.dom a
  ·by_cases e:(gre p v).testBit a=true
   ·exact(hopen a e).1
   ·exact h.rng a (fun e3=>h3 (by unfold cc;rw[if_neg e];exact e3))
  ·obtain⟨rk,N,hrk⟩:=h.yes
   refine⟨rk,N,fun a h2=>?_⟩
   have h2:v a=2:=by
    unfold cc at h2
    split at h2
    ·cases h2
    ·exact h2
   obtain⟨b1,q,b2,b3,b4,b5⟩:=hrk a h2
   exact⟨b1,q,b2,b3,pc hkeep b4,b5⟩
  ·intro q hqm hqa
   by_cases e:(gre p v).testBit a=true
   ·have:=hgu q hqm (by rw[hqa];exact e)
    rw[List.any_eq_true] at this
    obtain⟨l,hl,hbl⟩:=this
    refine⟨l,hl,?_⟩
    unfold blk at hbl
    rw[Bool.or_eq_true,beq_iff_eq,Bool.and_eq_true] at hbl
    rcases hbl with h1l|⟨hn,hm⟩
    ·rw[mh hkeep (by rw[h1l];decide),h1l]
    ·unfold bh cc
     rw[if_pos (by rw[hn];rfl),if_pos hm]
   ·have h1:v a=1:=by
     unfold cc at h1
     rw[if_neg e] at h1
     exact h1
    obtain⟨l,hl,h1l⟩:=h.no a h1 q hqm hqa
    exact⟨l,hl,by rw[mh hkeep (by rw[h1l];decide),h1l]⟩
theorem tF {p:Prg}(hp:bZ p)(hr:∀r,r∈p.rules.l->aE r)(hh:cG p):∀(k:Nat) (v:Nat->Int) (l:List Stp),Set2 p v->cp p v<k->Set2 p (cH p k v l).2/\aU p (cH p k v l).2=false
 |0,_,_,_,h=>absurd h (Nat.not_lt_zero _)
 |k+1,v,l,h,hk=>by
  show Set2 p (if aU p v then cH p k (bq v (aj p v)) (l++[aj p v]) else(l,v)).2/\aU p (if aU p v then cH p k (bq v (aj p v)) (l++[aj p v]) else(l,v)).2=false
  by_cases hb:aU p v=true
  ·rw[if_pos hb]
   exact tF hp hr hh k _ _ (AC hp hr hh h hb).1 (by have:=lV hp hr hh hb;omega)
  ·rw[if_neg hb]
   exact⟨h,by simpa using hb⟩
structure Fin2 (p:Prg)(v:Nat->Int):Prop extends Set2 p v where
 fire:∀r,r∈p.rules.l->co v r=true->v r.head.toNat=2
 unf:∀m:Nat->Bool,kj p v m->(∀j,m j=true->j<p.atoms.toNat/\v j=3)->∀j,m j=false
theorem AD {p:Prg}(hp:bZ p)(hr:∀r,r∈p.rules.l->aE r)(hh:cG p):Fin2 p (ak p).2:=by
 have hd:Set2 p (ak p).2/\aU p (ak p).2=false:=tF hp hr hh 25 (fun _=>3) [] (AB p) (by have:=j7 p (fun _=>3);have:=hp.2;omega)
 obtain⟨h,hb⟩:=hd
 obtain⟨h1,h2⟩:=yT hb
 have hm:=(lU (de (ak p).2) p.rules.l 0 h1).2
 refine⟨h,fun r hrm hbd=>?_,fun m hu ho j=>?_⟩
 ·have hf:=hm r hrm
  unfold de at hf
  rw[hbd,Bool.and_true,beq_eq_false_iff_ne] at hf
  rcases h.dom r.head.toNat with e|e|e
  ·obtain⟨l,hl,h1l⟩:=h.no _ e r hrm rfl
   have:=fV.1 hbd l hl
   rw[h1l] at this
   cases this
  ·exact e
  ·exact absurd e hf
 ·cases hmj:m j with
  |false=>rfl
  |true=>
   have:=z1 hp (fun r hrm=>(hr r hrm).2.1) hu ho hmj
   rw[show gre p (ak p).2=0 from h2] at this
   simp at this
theorem tG {p:Prg}{v:Nat->Int}(h:Fin2 p v)(a:Nat):v a=2↔∃r,r∈p.rules.l/\r.head.toNat=a/\co v r=true:=by
 constructor
 ·intro h2
  obtain⟨rk,N,hrk⟩:=h.yes
  obtain⟨_,r,b1,b2,b3,_⟩:=hrk a h2
  exact⟨r,b1,b2,b3⟩
 ·rintro ⟨r,b1,rfl,b3⟩
  exact h.fire r b1 b3
theorem AE {p:Prg}{v:Nat->Int}(h:Fin2 p v){a:Nat}(ha:a<p.atoms.toNat):v a=1↔∀r,r∈p.rules.l->r.head.toNat=a->∃l,l∈r.body.l/\bh v l=1:=by
 refine⟨h.no a,fun hall=>?_⟩
 rcases h.dom a with e|e|e
 ·exact e
 ·obtain⟨r,b1,b2,b3⟩:=(tG h a).1 e
  obtain⟨l,hl,h1⟩:=hall r b1 b2
  have:=fV.1 b3 l hl
  rw[h1] at this
  cases this
 ·exfalso
  have:=h.unf (fun j=>decide (j=a)) (fun r hrm hra=>by
   obtain⟨l,hl,h1⟩:=hall r hrm (of_decide_eq_true hra)
   rw[List.any_eq_true]
   exact⟨l,hl,by unfold blk;rw[h1];rfl⟩) (fun j hj=>by rw[of_decide_eq_true hj];exact⟨ha,e⟩) a
  simp at this
theorem tH {p:Prg}{v:Nat->Int}{n:Nat}{can:List Bool}(h:Fin2 p v)(hn:p.atoms.toNat=n)(hrn:∀r,r∈p.rules.l->l5 n r)(hcan:∀j,j<n->can.getD j false=(v j != 1)):∀j,(foR p can n).getD j false=true↔v j=2:=by
 have hlit:∀r,r∈p.rules.l->∀l,l∈r.body.l->l.atom.toNat<n:=fun r hrm l hl=>by have:=(hrn r hrm).1.2 l hl;omega
 have hdom:=h.dom
 intro j
 constructor
 ·intro hj
  have:=o9 (p:=p) (set:=can) (n:=n) (m:=fun j=>v j==2) (fun r hrm hb=>by
   have hbd:co v r=true:=fV.2 (fun l hl=>by
    rw[kn hdom]
    obtain⟨c1,c2⟩:=hb l hl
    cases hneg:l.neg with
    |true=>
     have:=c1 hneg
     dsimp only at this
     rw[hcan _ (hlit r hrm l hl)] at this
     simpa using this
    |false=>
     have:=c2 hneg
     simpa using this)
   dsimp only
   rw[h.fire r hrm hbd]
   rfl) j hj
  simpa using this
 ·obtain⟨rk,N,hrk⟩:=h.yes
  have key:∀k a,rk a<k->v a=2->(foR p can n).getD a false=true:=by
   intro k
   induction k with
   |zero=>intro a ha;omega
   |succ k ih=>
    intro a ha h2
    obtain⟨_,r,b1,b2,b3,b4⟩:=hrk a h2
    rw[<-b2]
    refine oZ (set:=can) (fun r hrm=>by have:=(hrn r hrm).2;omega) r b1 (fun l hl=>⟨fun hneg=>?_,fun hneg=>?_⟩)
    ·have:=(kn hdom).1 (fV.1 b3 l hl)
     rw[hneg] at this
     have:v l.atom.toNat=1:=this
     show can.getD _ false=false
     rw[hcan _ (hlit r b1 l hl),this]
     rfl
    ·have:=(kn hdom).1 (fV.1 b3 l hl)
     rw[hneg] at this
     have:v l.atom.toNat=2:=this
     exact ih _ (by have:=b4 l hl hneg;omega) this
  exact key _ j (Nat.lt_succ_self _)
theorem AF {p:Prg}{v:Nat->Int}{n:Nat}{is:List Bool}(h:Fin2 p v)(hn:p.atoms.toNat=n)(hrn:∀r,r∈p.rules.l->l5 n r)(his:∀j,j<n->is.getD j false=(v j==2)):∀j,j<n->((foR p is n).getD j false=true↔v j≠1):=by
 have hlit:∀r,r∈p.rules.l->∀l,l∈r.body.l->l.atom.toNat<n:=fun r hrm l hl=>by have:=(hrn r hrm).1.2 l hl;omega
 have hhd:∀r,r∈p.rules.l->r.head.toNat<n:=fun r hrm=>by have:=(hrn r hrm).2;omega
 have hdom:=h.dom
 have hyes:∀j,v j=2->(foR p is n).getD j false=true:=fun j h2=>by
  have hcan:∀j,j<n->(((List.range n).map (fun j=>v j != 1)).getD j false=(v j != 1)):=fun j hj=>by
   rw[List.getD_eq_getElem?_getD,List.getElem?_map,List.getElem?_range hj]
   rfl
  have h1:=(tH (can:=(List.range n).map (fun j=>v j != 1)) h hn hrn hcan j).2 h2
  refine o9 (p:=p) (n:=n) (m:=fun j=>(foR p is n).getD j false) (fun r hrm hb=>?_) j h1
  refine oZ (set:=is) hhd r hrm (fun l hl=>⟨fun hneg=>?_,(hb l hl).2⟩)
  have:=(hb l hl).1 hneg
  dsimp only at this
  rw[hcan _ (hlit r hrm l hl)] at this
  show is.getD _ false=false
  rw[his _ (hlit r hrm l hl)]
  have:v l.atom.toNat=1:=by simpa using this
  rw[this]
  rfl
 intro j hjn
 constructor
 ·intro hj e1
  have:=o9 (p:=p) (set:=is) (n:=n) (m:=fun j=>v j != 1) (fun r hrm hb=>by
   show(v r.head.toNat != 1)=true
   rw[bne_iff_ne]
   intro e
   obtain⟨l,hl,h1⟩:=h.no _ e r hrm rfl
   rw[tE hdom] at h1
   obtain⟨c1,c2⟩:=hb l hl
   cases hneg:l.neg with
   |true=>
    rw[hneg] at h1
    have h1:v l.atom.toNat=2:=h1
    have:=c1 hneg
    dsimp only at this
    rw[his _ (hlit r hrm l hl),h1] at this
    cases this
   |false=>
    rw[hneg] at h1
    have h1:v l.atom.toNat=1:=h1
    have:=c2 hneg
    dsimp only at this
    rw[h1] at this
    cases this) j hj
  rw[e1] at this
  cases this
 ·intro hne
  rcases hdom j with e|e|e
  ·exact absurd e hne
  ·exact hyes j e
  ·cases ho:(foR p is n).getD j false with
   |true=>rfl
   |false=>
    exfalso
    have:=h.unf (fun j=>decide (j<n)&&(v j==3 && !(foR p is n).getD j false)) (fun r hrm hm=>by
     rw[Bool.and_eq_true,Bool.and_eq_true,beq_iff_eq,decide_eq_true_eq,Bool.not_eq_true'] at hm
     rw[List.any_eq_true]
     by_cases hex:∃l,l∈r.body.l/\blk v (fun j=>decide (j<n)&&(v j==3 && !(foR p is n).getD j false)) l=true
     ·exact hex
     ·exfalso
      have hall:∀l,l∈r.body.l->blk v (fun j=>decide (j<n)&&(v j==3 && !(foR p is n).getD j false)) l=false:=fun l hl=>by
       cases hb:blk v (fun j=>decide (j<n)&&(v j==3 && !(foR p is n).getD j false)) l with
       |false=>rfl
       |true=>exact absurd ⟨l,hl,hb⟩ hex
      have hc:=oZ (set:=is) hhd r hrm (fun l hl=>by
       have hb:=hall l hl
       unfold blk at hb
       rw[Bool.or_eq_false_iff,beq_eq_false_iff_ne,Bool.and_eq_false_iff] at hb
       obtain⟨b1,b2⟩:=hb
       have b1:=fun e=>b1 ((tE hdom).2 e)
       have hln:=hlit r hrm l hl
       refine⟨fun hneg=>?_,fun hneg=>?_⟩
       ·rw[hneg] at b1
        have b1:¬v l.atom.toNat=2:=b1
        show is.getD _ false=false
        rw[his _ hln,beq_eq_false_iff_ne]
        exact b1
       ·rw[hneg] at b1 b2
        have b1:¬v l.atom.toNat=1:=b1
        rcases b2 with b2|b2
        ·cases b2
        ·dsimp only at b2
         rw[decide_eq_true hln,Bool.true_and,Bool.and_eq_false_iff] at b2
         rcases hdom l.atom.toNat with e|e|e
         ·exact absurd e b1
         ·exact hyes _ e
         ·rcases b2 with b2|b2
          ·rw[e] at b2;cases b2
          ·simpa using b2)
      have hc:(foR p is n).getD r.head.toNat false=true:=hc
      rw[hm.2.2] at hc
      cases hc) (fun j hj=>by
     rw[Bool.and_eq_true,Bool.and_eq_true,beq_iff_eq,decide_eq_true_eq] at hj
     exact⟨omg,hj.2.1⟩) j
    rw[decide_eq_true hjn,e,ho] at this
    cases this
section
variable {R:Res}
theorem AG [Tab LT R]{nt k0 f0:Nat}{b:Code}{p:List Nat}{Q:AEx->St R.σ->Prop}{s:St R.σ}(t:Nat)(psl:List Nat)(m:Nat)(hrl:iG t psl (sub b p)=true){fa fb:Nat->AV}(hf:lk s.fr t=.fn 105 0 fa 1 fb)(hfb:fb 0=.ref m 0)
  (S K:Nat) (hS:S<2^24) (H:List AObj) (h0:To R k0 s ⟨s.fr,H++[cO 1 (fun _=>.int .u64 S)],s.g⟩) (hl:H.length=m)
  (hlive:dE (H++[cO 1 (fun _=>.int .u64 S)])) (hBO:fj m H) (hlen:1=psl.length) (hlt:bF psl nt=true) (ts:List Nat) (hBf:gj ts (fun t=>Below m (lk s.fr t)))
  (hround:∀k l,k<K->k<(ai S).length->Wp Tryd.prog R nt m (.inr l) b (p++[0]) (nC Tryd.prog R nt m l b (p++[1]) none H s.g) ⟨cL psl [.int .i64 (((ai S).getD k 0:Nat):Int)] (dS ts s.fr),H,s.g⟩)
  (hKl:K<(ai S).length) (hlast:∀l,Wp Tryd.prog R nt (m+1) (.inr l) b (p++[0]) (s8 Tryd.prog R nt l b (p++[1]) ((Tryd.prog.funcs[f0]?).isSome=true) (fun e s3=>Q e ⟨s.fr,s3.hp,s3.g⟩)) ⟨cL psl [.int .i64 (((ai S).getD K 0:Nat):Int)] s.fr,H++[.dead],s.g⟩) :
  WpB Tryd.prog R nt k0 f0 b p Q s:=by
 obtain⟨ps,assign,body,hc,rfl⟩:∃ps assign body,sub b p=.rangeFunc (.tmp t) ps assign body/\ps.toList=psl:=by
  unfold iG at hrl
  split at hrl
  ·rename_i u ps assign body hs
   simp only[Bool.and_eq_true] at hrl
   have:=Nat.eq_of_beq_eq_true hrl.1
   subst this
   exact⟨ps,assign,body,hs,jI hrl.2⟩
  ·cases hrl
 have e0:sub b (p++[0])=assign:=by rw[bW,hc];exact cn assign
 have e1:sub b (p++[1])=body:=by rw[bW,hc];exact cn body
 refine xa h0 ⟨fun C hC n a w hH=>?_⟩
 rw[hc]
 refine wW rfl (s7 (s:=⟨s.fr,H++[cO 1 (fun _=>.int .u64 S)],s.g⟩) (K:=K) hf hfb hS rfl hl hlive hBO hlen hlt ts hBf (fun k hk hkN l=>?_) (fun _ l=>?_) (fun h=>absurd hKl omg) hC hH)
 ·have h1:=(hround k l hk hkN).h
  rw[e0] at h1
  rw[show(St.hp ⟨cL ps.toList [.int .i64 (((ai S).getD k 0:Nat):Int)] (dS ts s.fr),H,s.g⟩).length=m from hl]
  refine gE h1 (fun e s' hq=>?_)
  cases e with
  |normal=>
   have h2:=(show Wp _ _ _ _ _ _ _ _ _ from hq).h
   rw[e1] at h2
   exact⟨rfl,h2⟩
  |exit id=>exact hq.elim
  |ret=>exact hq.elim
  |pan v=>exact hq.elim
 ·have h1:=(hlast l).h
  rw[e0] at h1
  refine gE h1 (fun e s' hq=>?_)
  cases e with
  |normal=>
   have h2:=(show Wp _ _ _ _ _ _ _ _ _ from hq).h
   rw[e1] at h2
   exact⟨rfl,h2⟩
  |exit id=>exact hq.elim
  |ret=>exact hq.elim
  |pan v=>exact hq.elim
end
theorem AH (R:Res)[Tab LT R](p:Prg)(v:Nat->Int)(es:List (Value × AV))(s:Step)(hl:p.rules.l.length<1000000)(hr:∀r,r∈p.rules.l->aE r)(hes:HeadsOk es p.rules.l)(hp:1<=p.atoms/\p.atoms<=24)(hsl:s.atoms.l.length<1000000)(hc:dd p v s.atoms.l=true)(hn:dH p v (aV s.atoms.l)=false)(g:R.σ):Does Tryd.prog R 139 [bo s,.ref 0 0] [cO 27 (ae p v (.mp 1)),.map es] g (.pan (.ifc 145 (.agg 0 (nth [])))) [cO 27 (ae p v (.mp 1)),.map es] g:=by
 unfold dd at hc
 rw[Bool.and_eq_true,decide_eq_true_eq,List.all_eq_true] at hc
 have h0:(s.atoms.l.length:Int) > 0:=by omega
 have hck:∀j,j<s.atoms.l.length->fT p v s.atoms.l j=true:=fun j hj=>hc.2 j (List.mem_range.2 hj)
 refine xd (nt:=79) (k0:=2) krf krf rfl ?_
 refine jU krf ?_
 refine vcR [] (lkL [(0,[2,3])]) (fun _=>[]) (fun (Q:AEx->St R.σ->Prop)=>Q AEx.normal (St.mk [(2,ref 2 0),(3,ref 3 0)] [cO 27 (ae p v (AV.mp 1)),AObj.map es,cO 2 (nth [i6 s.rule,ah s.atoms]),cO 1 fun (a:Nat)=>ref 0 0] g)) (?_)
 show WpB _ _ _ _ _ _ _ _ _
 refine jU krf ?_
 refine vcR [] (lkL [(1,[2,3])]) (lkL [(1,[(5,ROrc.pcall (tup 0 (nth [])))])]) (fun Q=>2<=2/\(∀(hp:List AObj) (g:R.σ),true=true/\Does Tryd.prog R 140 [AV.bool (decide ((↑(List.length s.atoms.l):Int) > 0))] hp g (ret (tup 0 (nth []))) hp g)/\Q AEx.normal (St.mk [(2,ref 2 0),(3,ref 3 0)] [cO 27 (ae p v (AV.mp 1)),AObj.map es,cO 2 (nth [i6 s.rule,ah s.atoms]),cO 1 fun a=>ref 0 0] g)) ⟨omg,(fun _ _=>⟨rfl,(dT _ _ (by simp at * <;> omega) _ _)⟩),?_⟩
 show WpB _ _ _ _ _ _ _ _ _
 refine jU krf ?_
 refine vcR [] (lkL [(2,[2,3,4])]) (fun _=>[]) (fun (Q:AEx->St R.σ->Prop)=>Q AEx.normal (St.mk [(2,ref 2 0),(3,ref 3 0),(4,ref 4 0)] [cO 27 (ae p v (AV.mp 1)),AObj.map es,cO 2 (nth [i6 s.rule,ah s.atoms]),cO 1 fun (a:Nat)=>ref 0 0,cO 1 fun (a:Nat)=>int u64 0] g)) (?_)
 show WpB _ _ _ _ _ _ _ _ _
 refine jU krf ?_
 refine vcR [] (lkL [(3,[2,3,4,17,18,19])]) (fun _=>[]) (fun Q=>2<=2/\WpC Tryd.prog R 79 2 139 [1,1,1,0,1,0] Q [Kont.blk 0] (St.mk [(2,ref 2 0),(3,ref 3 0),(4,ref 4 0),(17,ah s.atoms),(18,i6 (↑(List.length s.atoms.l):Int)),(19,i6 0)] [cO 27 (ae p v (AV.mp 1)),AObj.map es,cO 2 (nth [i6 s.rule,ah s.atoms]),cO 1 fun a=>ref 0 0,cO 1 fun a=>int u64 0] g)) ⟨omg,?_⟩
 refine(a9 krf (fun (i:Nat)=>⟨[(2,ref 2 0),(3,ref 3 0),(4,ref 4 0),(17,ah s.atoms),(18,i6 (s.atoms.l.length:Int)),(19,.int .i64 i)],[cO 27 (ae p v (.mp 1)),.map es,cO 2 (nth [.int .i64 s.rule,ah s.atoms]),cO 1 (fun _=>.ref 0 0),cO 1 (fun _=>.int .u64 (aV (s.atoms.l.take i)))],g⟩) (fun (i:Nat)=>(i<=s.atoms.l.length/\aV (s.atoms.l.take i)<2^24)) (fun (i:Nat)=>(s.atoms.l.length-i)) 0 (toL (h1:=⟨Bs _,Bs _,Bs _,Bs _,Bs _,(Bt krf),trivial⟩)) ?_ (fun i hi=>?_))
 ·exact⟨Nat.zero_le _,(by decide:(0:Nat)<2^24)⟩
 ·obtain⟨h1,h2⟩:=hi
  rcases Nat.lt_or_ge i s.atoms.l.length with hlt|hge
  ·have hx:=og hlt
   have hm:=hck i hlt
   have hm':(bif eN p s.atoms.l i then v (s.atoms.l.getD i 0).toNat==3 else false)=true:=hm
   have hA:=lK (oe hm)
   refine vcR [] (lkL [(4,[2,3,4,17,18,19,20]),(5,[2,3,4,5,6,17,18,19]),(6,[2,3,4,6,17,18,19]),(7,[2,3,4,17,18,19]),(8,[2,3,4,17,18,19])]) (lkL [(6,[(7,ROrc.pcall (AV.bool (decide (0<=List.getD s.atoms.l i 0/\List.getD s.atoms.l i 0<=p.atoms-1)))),(29,ROrc.kop (i6 (v (Int.toNat (List.getD s.atoms.l i 0))))),(32,ROrc.pcall (tup 0 (nth [])))]),(7,[(2,ROrc.pcall (int u64 (↑(2^Int.toNat (List.getD s.atoms.l i 0)):Int))),(4,ROrc.val (Orc.obj (nth [int u64 (IntKind.wrap u64 (↑(BitVec.toNat (BitVec.ofInt 64 (↑(aV (List.take i s.atoms.l)):Int)|||BitVec.ofInt 64 (↑(2^Int.toNat (List.getD s.atoms.l i 0)):Int))):Int))])))])]) (fun Q=>(fun (u1:Int)=>(fun (u2:Int)=>(fun (u3:Bool)=>(fun (u4:List AObj)=>(fun (u5:AV)=>(fun (u6:Int)=>(fun (u7:Int)=>(fun (u8:Bool)=>(fun (u9:Option (List Nat))=>(fun (u10:Option (Nat × Bool))=>(decide (u7<u6)=true->(0<=u7/\u7<u6)/\1<=1/\1<=1/\1<=27/\(-9223372036854775808<=p.atoms-1/\p.atoms-1<=9223372036854775807)/\(∀(hp:List AObj) (g:R.σ),true=true/\Does Tryd.prog R 58 [i6 u1,i6 0,i6 (p.atoms-1)] hp g (ret (AV.bool u8)) hp g)/\((u8 && !u7==0)=true->2<=2)/\((u8 && !u7==0)=true -> -9223372036854775808<=u7-1/\u7-1<=9223372036854775807)/\((u8 && !u7==0)=true->0<=u7-1/\u7-1<u6)/\((u8 && !u7==0)=true->1<=1)/\(u3=true->1<=1)/\(u3=true->0<=u1/\u1<(↑24:Int))/\(u3=true->OpOk Tryd.prog R (Oper.mk (some 53) (Op.load 43 (Operand.tmp 52)) 43 "table.go:155" #[Edge.mk 28 Ground.data,Edge.mk 23 Ground.guard] (some (23,true))) (evO [Row.mk (some 52) (some (23,true)) (ref 0 (Int.toNat u1+2)) false u9 [],Row.mk (some 51) (some (23,true)) (ref 0 2) false u9 [],Row.mk (some 50) (some (23,true)) (ref 0 0) false u9 [],Row.mk (some 49) (some (23,true)) (i6 u1) false u9 [],Row.mk (some 48) (some (23,true)) (ref 0 0) false u9 [3],Row.mk (some 47) none (AV.bool u3) false u9 [],Row.mk (some 46) none (AV.bool u3) false u9 [],Row.mk (some 45) (some (8,true)) (AV.bool (bif u7==0 then true else decide (u1 > u2))) false u9 [],Row.mk (some 44) u10 (AV.bool (decide (u1 > u2))) false u9 [],Row.mk (some 43) u10 (i6 u2) false u9 [],Row.mk (some 42) u10 (fp 1 fun x=>i6 u2) false u9 [],Row.mk (some 41) u10 (i6 (u7-1)) false u9 [],Row.mk (some 40) u10 (i6 u7) false u9 [],Row.mk (some 39) u10 (ah s.atoms) false u9 [2],Row.mk (some 38) u10 (ref 2 1) false u9 [],Row.mk (some 37) u10 (ref 2 0) false u9 [],Row.mk (some 36) u10 (i6 u1) false u9 [],Row.mk (some 35) (some (8,true)) (AV.bool (u7==0)) false u9 [],Row.mk (some 34) (some (8,true)) (AV.bool (u7==0)) false u9 [],Row.mk (some 33) (some (8,true)) (i6 u7) false u9 [],Row.mk (some 32) none (AV.bool u8) false u9 [],Row.mk (some 31) none (AV.bool u8) false u9 [],Row.mk (some 30) none (i6 (p.atoms-1)) false u9 [],Row.mk (some 29) none (i6 p.atoms) false u9 [0],Row.mk (some 28) none (ref 0 0) false u9 [],Row.mk (some 27) none (ref 0 0) false u9 [],Row.mk (some 26) none (ref 0 0) false u9 [],Row.mk (some 25) none (ref 0 0) false u9 [3],Row.mk (some 24) none (i6 u1) false u9 []] [(2,ref 2 0),(3,ref 3 0),(4,ref 4 0),(5,i6 u7),(6,i6 u1),(17,ah s.atoms),(18,i6 u6),(19,i6 u7)] [(23,true)]) u4 g (i6 (v (Int.toNat u1))) u4 g)/\(∀(hp:List AObj) (g:R.σ),true=true/\Does Tryd.prog R 140 [AV.bool (bif u3 then v (Int.toNat u1)==3 else false)] hp g (ret (tup 0 (nth []))) hp g)/\Flw Tryd.prog/\1<=1/\(∀(hp:List AObj) (g:R.σ),true=true/\Does Tryd.prog R 79 [i6 u1] hp g (ret (int u64 (↑(2^Int.toNat u1):Int))) hp g)/\1<=1/\(∀(c:Nat),c<1->nth [u5] c=al (fun (x:Nat)=>int u64 (↑(aV (List.take i s.atoms.l)):Int)) 0 1 (fun (x:Nat)=>u5) c)/\(-9223372036854775808<=u7+1/\u7+1<=9223372036854775807)/\Q AEx.normal (St.mk [(2,ref 2 0),(3,ref 3 0),(4,ref 4 0),(17,ah s.atoms),(18,i6 u6),(19,i6 (u7+1))] [cO 27 (ae p v (AV.mp 1)),AObj.map es,cO 2 (nth [i6 s.rule,ah s.atoms]),cO 1 fun x=>ref 0 0,cO 1 (nth [u5])] g))/\(decide (u7<u6)=false->Q (AEx.exit 0) (St.mk [(2,ref 2 0),(3,ref 3 0),(4,ref 4 0),(17,ah s.atoms),(18,i6 u6),(19,i6 u7),(20,AV.bool (decide (u7<u6)))] u4 g))) (some (11,false))) (some [])) (decide (0<=u1/\u1<=p.atoms-1))) ((↑i:Int))) ((↑(List.length s.atoms.l):Int))) (int u64 (IntKind.wrap u64 (↑(BitVec.toNat (BitVec.ofInt 64 (↑(aV (List.take i s.atoms.l)):Int)|||BitVec.ofInt 64 (↑(2^Int.toNat u1):Int))):Int)))) ([cO 27 (ae p v (AV.mp 1)),AObj.map es,cO 2 (nth [i6 s.rule,ah s.atoms]),cO 1 fun x=>ref 0 0,cO 1 fun x=>int u64 (↑(aV (List.take i s.atoms.l)):Int)])) (bif decide (0<=u1/\u1<=p.atoms-1) then bif (↑i:Int)==0 then true else decide (u1 > u2) else false)) (List.getD s.atoms.l (Int.toNat ((↑i:Int)-1)) 0)) (List.getD s.atoms.l i 0)) ⟨fun c1=>have c1:(↑i:Int)<(↑(List.length s.atoms.l):Int):=(of_decide_eq_true c1);⟨omg,omg,omg,omg,omg,(fun _ _=>⟨rfl,(dG _ _ _ _ _ _)⟩),omg,omg,(by intro h;simp at h <;> omega),omg,omg,omg,?_,(fun _ _=>⟨rfl,(dT _ _ (by assumption) _ _)⟩),krf,omg,(fun _ _=>⟨rfl,(d9 _ _ omg _ _)⟩),omg,(fun c hc=>match c,hc with|0,_=>krf ),omg,?_⟩,fun c1=>have c1:¬(↑i:Int)<(↑(List.length s.atoms.l):Int):=(of_decide_eq_false c1);?_⟩
   ·intro _
    exact d6 rfl rfl krf rfl (by show _+1<=27;omega) (d8 omg omg)
   ·refine(aO (i+1) (toL (h1:=⟨Bs _,Bs _,Bs _,Bs _,Bs _,(Bt krf),trivial⟩) (h2:=⟨Bu,rfl,Bu,Bu,⟨rfl,Nat.le_refl _,fun j hj=>match j,hj with|0,_=>(Bt ?_) ⟩,trivial⟩)) ?_ ?_)
    ·show AV.int .u64 _=AV.int .u64 _
     congr 1
     rw[hx]
     exact Tb.u64_or (bI h2) (bI (Nat.pow_lt_pow_right dcd omg))
    ·refine⟨omg,?_⟩
     rw[hx]
     exact Nat.or_lt_two_pow h2 (Nat.pow_lt_pow_right dcd omg)
    ·omega
   all_goals (exfalso;omega)
  ·have hi':i=s.atoms.l.length:=by omega
   subst hi'
   rw[List.take_length] at h2 ⊢
   obtain⟨S,hS⟩:∃S,aV s.atoms.l=S:=⟨_,rfl⟩
   rw[hS] at h2 hn ⊢
   have hb:decide ((s.atoms.l.length:Int)<(s.atoms.l.length:Int))=false:=decide_eq_false omg
   refine vcR [[1,1,1,0,1,0,0,1,0,0]] (lkL [(4,[2,3,4,17,18,19,20])]) (fun _=>[]) (fun Q=>(fun (u1:Int)=>(fun (u2:St R.σ)=>(decide (u1<u1)=true->WpC Tryd.prog R 79 2 139 [1,1,1,0,1,0,0,1,0,0] Q [Kont.seq [1,1,1,0,1,0,0,1,1]] u2)/\(decide (u1<u1)=false->Q (AEx.exit 0) u2)) (St.mk [(2,ref 2 0),(3,ref 3 0),(4,ref 4 0),(17,ah s.atoms),(18,i6 u1),(19,i6 u1),(20,AV.bool (decide (u1<u1)))] [cO 27 (ae p v (AV.mp 1)),AObj.map es,cO 2 (nth [i6 s.rule,ah s.atoms]),cO 1 fun x=>ref 0 0,cO 1 fun x=>int u64 (↑S:Int)] g)) ((↑(List.length s.atoms.l):Int))) ⟨fun hcc=>(nomatch (hb.symm.trans hcc)),fun _=>?_⟩
   refine⟨⟨[(2,.ref 2 0),(3,.ref 3 0),(4,.ref 4 0)],[cO 27 (ae p v (.mp 1)),.map es,cO 2 (nth [.int .i64 s.rule,ah s.atoms]),cO 1 (fun _=>.ref 0 0),cO 1 (fun _=>.int .u64 S)],g⟩,aT (by exact⟨Bs _,Bs _,Bs _,trivial⟩) rfl rfl,?_⟩
   show WpB _ _ _ _ _ _ _ _ _
   refine w9 krf ?_
   refine jU krf ?_
   refine vcR [] (lkL [(9,[3,4,63])]) (lkL [(9,[(1,ROrc.call (fn 105 0 (nth []) 1 (nth [ref (List.length [cO 27 (ae p v (AV.mp 1)),AObj.map es,cO 2 (nth [i6 s.rule,ah s.atoms]),cO 1 fun (x:Nat)=>ref 0 0,cO 1 fun (x:Nat)=>int u64 (↑S:Int)]) 0])) ([cO 27 (ae p v (AV.mp 1)),AObj.map es,cO 2 (nth [i6 s.rule,ah s.atoms]),cO 1 fun (x:Nat)=>ref 0 0,cO 1 fun (x:Nat)=>int u64 (↑S:Int)]++[cO 1 fun (x:Nat)=>int u64 (↑S:Int)]) g)])]) (fun Q=>(fun (u1:List AObj)=>1<=1/\(true=true/\Does Tryd.prog R 77 [int u64 (↑S:Int)] [cO 27 (ae p v (AV.mp 1)),AObj.map es,cO 2 (nth [i6 s.rule,ah s.atoms]),cO 1 fun x=>ref 0 0,cO 1 fun x=>int u64 (↑S:Int)] g (ret (fn 105 0 (nth []) 1 (nth [ref 5 0]))) u1 g)/\Q AEx.normal (St.mk [(3,ref 3 0),(4,ref 4 0),(63,fn 105 0 (nth []) 1 (nth [ref 5 0]))] u1 g)) ([cO 27 (ae p v (AV.mp 1)),AObj.map es,cO 2 (nth [i6 s.rule,ah s.atoms]),cO 1 fun x=>ref 0 0,cO 1 fun x=>int u64 (↑S:Int),cO 1 fun x=>int u64 (↑S:Int)])) ⟨omg,⟨rfl,(cT _ _ _ _)⟩,?_⟩
   show WpB _ _ _ _ _ _ _ _ _
   obtain⟨K,hK,hKs,hlo⟩:∃K,K<(ai S).length/\(ofH p.rules.l (((ai S).getD K 0:Nat):Int)).any (ba v S)=true/\∀j,j<K->(ofH p.rules.l (((ai S).getD j 0:Nat):Int)).any (ba v S)=false:=by
    have h:=gY (fun (a:Nat)=>(ofH p.rules.l a).any (ba v S)) 0 (ai S) 0 (by
     by_cases h:0<=aF (fun (a:Nat)=>(ofH p.rules.l a).any (ba v S)) (ai S) 0
     ·exact h
     ·have hm:=(lU _ _ _ h).2
      unfold dH at hn
      rw[Bool.not_eq_false',List.any_eq_true] at hn
      obtain⟨x,hx,hx2⟩:=hn
      rw[hm x hx] at hx2
      cases hx2)
    obtain⟨K,h1,_,h3,h4⟩:=h
    exact⟨K,h1,h3,h4⟩
   have hin:∀k,k<(ai S).length->(ai S).getD k 0<24:=fun k hk=>iS (bO (ai S) 0 hk)
   obtain⟨l,hle⟩:∃l,(fun k=>(ai S).getD k 0)=l:=⟨_,rfl⟩
   refine wZ krf ?_
   refine AG 63 [64] 5 krf rfl rfl S K h2 [cO 27 (ae p v (.mp 1)),.map es,cO 2 (nth [.int .i64 s.rule,ah s.atoms]),cO 1 (fun _=>.ref 0 0),cO 1 (fun _=>.int .u64 S)] (fJ rfl rfl) rfl (by exact⟨omg,omg,omg,omg,omg,trivial⟩) (by exact⟨fun j _=>aW _ _ 3 _,trivial,fun j hj=>(match j with|0=>trivial|1=>trivial|_+2=>trivial),fun _ _=>show 0<5 by omega,fun _ _=>trivial,trivial⟩) rfl krf [3,4] (by exact⟨show 3<5 by omega,show 4<5 by omega,trivial⟩) (fun k l' hk hkN=>?_) hK (fun l'=>?_)
   ·refine vcR [] (lkL [(10,[3,4,7])]) (fun _=>[]) (fun (Q:AEx->St R.σ->Prop)=>Q AEx.normal (St.mk [(3,ref 3 0),(4,ref 4 0),(7,i6 (↑(List.getD (ai S) k 0):Int))] [cO 27 (ae p v (AV.mp 1)),AObj.map es,cO 2 (nth [i6 s.rule,ah s.atoms]),cO 1 fun (x:Nat)=>ref 0 0,cO 1 fun (x:Nat)=>int u64 (↑S:Int)] g)) (?_)
    show Wp _ _ _ 5 _ _ _ _ _
    obtain⟨a,ha⟩:∃a,(ai S).getD k 0=a:=⟨_,rfl⟩
    have ha24:a<24:=by rw[<-ha];exact hin k hkN
    have hm:(!(ofH p.rules.l a).any (ba v S))=true:=by rw[<-ha,hlo k hk];rfl
    rw[ha]
    refine vcR [] (lkL [(11,[3,4])]) (lkL [(11,[(3,ROrc.kcall (AV.bool (List.any (ofH p.rules.l (↑a:Int)) (ba v S)))),(5,ROrc.pcall (tup 0 (nth [])))])]) (fun Q=>(fun (u1:List AObj)=>1<=1/\1<=1/\(true=true/\Does Tryd.prog R 115 [ref 0 0,i6 (↑a:Int),int u64 (↑S:Int)] u1 g (ret (AV.bool (List.any (ofH p.rules.l (↑a:Int)) (ba v S)))) u1 g)/\(∀(hp:List AObj) (g:R.σ),true=true/\Does Tryd.prog R 140 [AV.bool !List.any (ofH p.rules.l (↑a:Int)) (ba v S)] hp g (ret (tup 0 (nth []))) hp g)/\Q AEx.normal (St.mk [(3,ref 3 0),(4,ref 4 0)] u1 g)) ([cO 27 (ae p v (AV.mp 1)),AObj.map es,cO 2 (nth [i6 s.rule,ah s.atoms]),cO 1 fun x=>ref 0 0,cO 1 fun x=>int u64 (↑S:Int)])) ⟨omg,omg,⟨rfl,(doT (T:=LT) [0,1] 5 (fun R _ g=>j3 R (p) (v) (es) (S) (a) omg omg omg omg omg g))⟩,(fun _ _=>⟨rfl,(dT _ _ omg _ _)⟩),?_⟩
    refine(eJ rfl (aT trivial rfl rfl))
   ·refine vcR [] (lkL [(10,[3,4,7])]) (fun _=>[]) (fun (Q:AEx->St R.σ->Prop)=>Q AEx.normal (St.mk [(3,ref 3 0),(4,ref 4 0),(7,i6 (↑(List.getD (ai S) K 0):Int))] [cO 27 (ae p v (AV.mp 1)),AObj.map es,cO 2 (nth [i6 s.rule,ah s.atoms]),cO 1 fun (x:Nat)=>ref 0 0,cO 1 fun (x:Nat)=>int u64 (↑S:Int),dead] g)) (?_)
    show Wp _ _ _ 6 _ _ _ _ _
    obtain⟨a,ha⟩:∃a,(ai S).getD K 0=a:=⟨_,rfl⟩
    have ha24:a<24:=by rw[<-ha];exact hin K hK
    have hm:(!(ofH p.rules.l a).any (ba v S))=false:=by rw[<-ha,hKs];rfl
    rw[ha]
    refine vcR [] (lkL [(11,[3,4])]) (lkL [(11,[(3,ROrc.kcall (AV.bool (List.any (ofH p.rules.l (↑a:Int)) (ba v S)))),(5,ROrc.cpan (ifc 145 (agg 0 (nth []))) [cO 27 (ae p v (AV.mp 1)),AObj.map es,cO 2 (nth [i6 s.rule,ah s.atoms]),cO 1 fun (x:Nat)=>ref 0 0,cO 1 fun (x:Nat)=>int u64 (↑S:Int),dead] g)])]) (fun Q=>(fun (u1:List AObj)=>1<=1/\1<=1/\(true=true/\Does Tryd.prog R 115 [ref 0 0,i6 (↑a:Int),int u64 (↑S:Int)] u1 g (ret (AV.bool (List.any (ofH p.rules.l (↑a:Int)) (ba v S)))) u1 g)/\(true=true/\Does Tryd.prog R 140 [AV.bool !List.any (ofH p.rules.l (↑a:Int)) (ba v S)] u1 g (Oc.pan (ifc 145 (agg 0 (nth [])))) u1 g)/\Q (AEx.pan (ifc 145 (agg 0 (nth [])))) (St.mk [(3,ref 3 0),(4,ref 4 0)] u1 g)) ([cO 27 (ae p v (AV.mp 1)),AObj.map es,cO 2 (nth [i6 s.rule,ah s.atoms]),cO 1 fun x=>ref 0 0,cO 1 fun x=>int u64 (↑S:Int),dead])) ⟨omg,omg,⟨rfl,(doT (T:=LT) [0,1] 6 (fun R _ g=>j3 R (p) (v) (es) (S) (a) omg omg omg omg omg g))⟩,⟨rfl,(iQ _ _ omg _ _)⟩,?_⟩
    refine⟨krf,?_⟩
    exact d5 (s':=⟨[(0,.ifc 145 (.agg 0 (nth [])))],[cO 27 (ae p v (.mp 1)),.map es],g⟩) [0,1] 6 rfl rfl rfl rfl rfl ⟨Bs _,trivial⟩ ⟨BC (fun j hj=>(cb (f:=ar [0,1] 6) rfl).symm),rfl,trivial⟩
theorem AI (R:Res)[Tab LT R](p:Prg)(v:Nat->Int)(es:List (Value × AV))(s:Step)(hl:p.rules.l.length<1000000)(hr:∀r,r∈p.rules.l->aE r)(hes:HeadsOk es p.rules.l)(hp:1<=p.atoms/\p.atoms<=24)(hsl:s.atoms.l.length<1000000)(g:R.σ):Does Tryd.prog R 139 [bo s,.ref 0 0] [cO 27 (ae p v (.mp 1)),.map es] g (rT (dI p v s)) [cO 27 (ae p (match dI p v s with|true=>cc v (aV s.atoms.l)|false=>v) (.mp 1)),.map es] g:=by
 by_cases h:dd p v s.atoms.l=true/\dH p v (aV s.atoms.l)=false
 ·have hu:dI p v s=false:=by unfold dI;rw[h.1,h.2];rfl
  rw[hu]
  exact AH R p v es s hl hr hes hp hsl h.1 h.2 g
 ·exact ym R p v es s hl hr hes hp hsl (fun hc=>by
   cases hn:dH p v (aV s.atoms.l) with
   |true=>rfl
   |false=>exact absurd ⟨hc,hn⟩ h) g
def okS (p:Prg)(v:Nat->Int)(s:Step):Bool:=if s.rule = -1 then dI p v s else dc p v s
def newS (p:Prg)(v:Nat->Int)(s:Step):Nat->Int:=if s.rule = -1 then cc v (aV s.atoms.l) else fS p v s
theorem mi {R:Res}{f:FuncId}{p:Prg}{v v':Nat->Int}{es:List (Value × AV)}{s:Step}{x:Oc}(hx:∀F,iC F x=x)(h:∀(R:Res) [Tab LT R] (g:R.σ),Does Tryd.prog R f [bo s,.ref 0 0] [cO 27 (ae p v (.mp 1)),.map es] g x [cO 27 (ae p v' (.mp 1)),.map es] g)[Tab LT R](n:Nat)(c:Nat->AV)(g:R.σ) :
  Does Tryd.prog R f [bo s,.ref 0 0] [cO 27 (ae p v (.mp 1)),.map es,cO n c] g x [cO 27 (ae p v' (.mp 1)),.map es,cO n c] g:=
 er (T:=LT) inferInstance [0,1] 3 (fun R _ g=>h R g) rfl rfl rfl ⟨BC (fun j hj=>(cb (f:=ar [0,1] 3) rfl).symm),rfl,trivial⟩ (by exact⟨dcd,trivial⟩) ⟨bt (by exact⟨⟨trivial,trivial⟩,trivial⟩),Bs _,trivial⟩ (by rw[hx];cases x <;> exact Bs _) ⟨BC (fun j hj=>cb rfl),rfl,Bv _,trivial⟩
theorem AJ (R:Res)[Tab LT R](p:Prg)(v v':Nat->Int)(es:List (Value × AV))(s:Step)(h:∀(R:Res) [Tab LT R] (g:R.σ),Does Tryd.prog R 141 [bo s,.ref 0 0] [cO 27 (ae p v (.mp 1)),.map es] g (.ret (.tup 0 (nth []))) [cO 27 (ae p v' (.mp 1)),.map es] g)(g:R.σ):Does Tryd.prog R 67 [.ref 0 0,.ifc 149 (bo s)] [cO 27 (ae p v (.mp 1)),.map es] g (.ret (.bool true)) [cO 27 (ae p v' (.mp 1)),.map es] g:=by
 refine jJ (K:=100) (nt:=bE Tryd.prog 67) (rs:=cE Tryd.prog 67) (k0:=2) 5 [4] krf krf krf rfl krf krf dcd dcd ?_
 refine vcR [] (lkL [(0,[0,1,4])]) (fun _=>[]) (fun (Q:AEx->St R.σ->Prop)=>Q AEx.normal (St.mk [(0,ref 0 0),(1,ifc 149 (bo s)),(4,ref 2 0)] [cO 27 (ae p v (AV.mp 1)),AObj.map es,cO 1 fun (a:Nat)=>AV.bool false] g)) (?_)
 refine jK 3 [.ref 2 0] rfl rfl rfl ?_
 have hD:=fun (R:Res) [Tab LT R] (n:Nat) (c:Nat->AV) (g:R.σ)=>mi (R:=R) (fun _=>rfl) h n c g
 refine vcR [] (lkL [(2,[4]),(3,[4])]) (lkL [(2,[(2,ROrc.inv (tup 0 (nth [])) [cO 27 (ae p v' (AV.mp 1)),AObj.map es,cO 1 fun (a:Nat)=>AV.bool false] g)]),(3,[(0,ROrc.val (Orc.obj (nth [AV.bool true])))])]) (fun Q=>(fun (u1:List AObj)=>(true=true/\true=true/\Does Tryd.prog R 141 [bo s,ref 0 0] (cO 27 (ae p v (AV.mp 1))::u1) g (ret (tup 0 (nth []))) (cO 27 (ae p v' (AV.mp 1))::u1) g)/\1<=1/\(∀(c:Nat),c<1->nth [AV.bool true] c=al (fun (a:Nat)=>AV.bool false) 0 1 (fun (x:Nat)=>AV.bool true) c)/\Q AEx.ret (St.mk [(4,ref 2 0)] [cO 27 (ae p v' (AV.mp 1)),AObj.map es,cO 1 (nth [AV.bool true])] g)) ([AObj.map es,cO 1 fun a=>AV.bool false])) ⟨⟨krf,rfl,(hD _ _ _ _)⟩,omg,(fun c hc=>match c,hc with|0,_=>krf ),?_⟩
 refine⟨_,_,sV R p v' es _ g,?_⟩
 refine(aq (bS 2 (AV.bool true) ([0+(TyI.mk (TypeInfo.mk TypeDesc.bool "bool" 1 1 false 1 1 (some (Value.bool false)) true #[]).desc Tryd.prog.types[4].size Tryd.prog.types[4].bytes (ce (dl (Value.bool false))) (cI (TypeInfo.mk TypeDesc.bool "bool" 1 1 false 1 1 (some (Value.bool false)) true #[]).desc) (dM Tryd.prog 4)).size<=1]) krf (by exact⟨dcd,trivial⟩) omg trivial ⟨(fun _ _=>(by first|exact trivial|apply aW)),trivial⟩ krf rfl rfl) (Bs _))
theorem AK (R:Res)[Tab LT R](p:Prg)(v:Nat->Int)(es:List (Value × AV))(s:Step)(h:∀(R:Res) [Tab LT R] (g:R.σ),Does Tryd.prog R 141 [bo s,.ref 0 0] [cO 27 (ae p v (.mp 1)),.map es] g (.pan (.ifc 145 (.agg 0 (nth [])))) [cO 27 (ae p v (.mp 1)),.map es] g)(g:R.σ):Does Tryd.prog R 67 [.ref 0 0,.ifc 149 (bo s)] [cO 27 (ae p v (.mp 1)),.map es] g (.ret (.bool false)) [cO 27 (ae p v (.mp 1)),.map es] g:=by
 refine jJ (K:=100) (nt:=bE Tryd.prog 67) (rs:=cE Tryd.prog 67) (k0:=2) 5 [4] krf krf krf rfl krf krf dcd dcd ?_
 refine vcR [] (lkL [(0,[0,1,4])]) (fun _=>[]) (fun (Q:AEx->St R.σ->Prop)=>Q AEx.normal (St.mk [(0,ref 0 0),(1,ifc 149 (bo s)),(4,ref 2 0)] [cO 27 (ae p v (AV.mp 1)),AObj.map es,cO 1 fun (a:Nat)=>AV.bool false] g)) (?_)
 refine jK 3 [.ref 2 0] rfl rfl rfl ?_
 have hD:=fun (R:Res) [Tab LT R] (n:Nat) (c:Nat->AV) (g:R.σ)=>mi (R:=R) (fun _=>rfl) h n c g
 refine vcR [] (lkL [(2,[4])]) (lkL [(2,[(2,ROrc.ipan (ifc 145 (agg 0 (nth []))) [cO 27 (ae p v (AV.mp 1)),AObj.map es,cO 1 fun (a:Nat)=>AV.bool false] g)])]) (fun Q=>(fun (u1:List AObj)=>(true=true/\true=true/\Does Tryd.prog R 141 [bo s,ref 0 0] u1 g (Oc.pan (ifc 145 (agg 0 (nth [])))) u1 g)/\Q (AEx.pan (ifc 145 (agg 0 (nth [])))) (St.mk [(4,ref 2 0)] u1 g)) ([cO 27 (ae p v (AV.mp 1)),AObj.map es,cO 1 fun a=>AV.bool false])) ⟨⟨krf,rfl,(hD _ _ _ _)⟩,?_⟩
 refine⟨_,_,oS R p v es _ g,?_⟩
 refine(aq (bS 2 (AV.bool false) ([0+(TyI.mk (TypeInfo.mk TypeDesc.bool "bool" 1 1 false 1 1 (some (Value.bool false)) true #[]).desc Tryd.prog.types[4].size Tryd.prog.types[4].bytes (ce (dl (Value.bool false))) (cI (TypeInfo.mk TypeDesc.bool "bool" 1 1 false 1 1 (some (Value.bool false)) true #[]).desc) (dM Tryd.prog 4)).size<=1]) krf (by exact⟨dcd,trivial⟩) omg trivial ⟨(fun _ _=>(by first|exact trivial|apply aW)),trivial⟩ krf rfl rfl) (Bs _))
theorem AL (R:Res)[Tab LT R](p:Prg)(v v':Nat->Int)(es:List (Value × AV))(s:Step)(h:∀(R:Res) [Tab LT R] (g:R.σ),Does Tryd.prog R 139 [bo s,.ref 0 0] [cO 27 (ae p v (.mp 1)),.map es] g (.ret (.tup 0 (nth []))) [cO 27 (ae p v' (.mp 1)),.map es] g)(g:R.σ):Does Tryd.prog R 67 [.ref 0 0,.ifc 148 (bo s)] [cO 27 (ae p v (.mp 1)),.map es] g (.ret (.bool true)) [cO 27 (ae p v' (.mp 1)),.map es] g:=by
 refine jJ (K:=100) (nt:=bE Tryd.prog 67) (rs:=cE Tryd.prog 67) (k0:=2) 5 [4] krf krf krf rfl krf krf dcd dcd ?_
 refine vcR [] (lkL [(0,[0,1,4])]) (fun _=>[]) (fun (Q:AEx->St R.σ->Prop)=>Q AEx.normal (St.mk [(0,ref 0 0),(1,ifc 148 (bo s)),(4,ref 2 0)] [cO 27 (ae p v (AV.mp 1)),AObj.map es,cO 1 fun (a:Nat)=>AV.bool false] g)) (?_)
 refine jK 3 [.ref 2 0] rfl rfl rfl ?_
 have hD:=fun (R:Res) [Tab LT R] (n:Nat) (c:Nat->AV) (g:R.σ)=>mi (R:=R) (fun _=>rfl) h n c g
 refine vcR [] (lkL [(2,[4]),(3,[4])]) (lkL [(2,[(2,ROrc.inv (tup 0 (nth [])) [cO 27 (ae p v' (AV.mp 1)),AObj.map es,cO 1 fun (a:Nat)=>AV.bool false] g)]),(3,[(0,ROrc.val (Orc.obj (nth [AV.bool true])))])]) (fun Q=>(fun (u1:List AObj)=>(true=true/\true=true/\Does Tryd.prog R 139 [bo s,ref 0 0] (cO 27 (ae p v (AV.mp 1))::u1) g (ret (tup 0 (nth []))) (cO 27 (ae p v' (AV.mp 1))::u1) g)/\1<=1/\(∀(c:Nat),c<1->nth [AV.bool true] c=al (fun (a:Nat)=>AV.bool false) 0 1 (fun (x:Nat)=>AV.bool true) c)/\Q AEx.ret (St.mk [(4,ref 2 0)] [cO 27 (ae p v' (AV.mp 1)),AObj.map es,cO 1 (nth [AV.bool true])] g)) ([AObj.map es,cO 1 fun a=>AV.bool false])) ⟨⟨krf,rfl,(hD _ _ _ _)⟩,omg,(fun c hc=>match c,hc with|0,_=>krf ),?_⟩
 refine⟨_,_,sV R p v' es _ g,?_⟩
 refine(aq (bS 2 (AV.bool true) ([0+(TyI.mk (TypeInfo.mk TypeDesc.bool "bool" 1 1 false 1 1 (some (Value.bool false)) true #[]).desc Tryd.prog.types[4].size Tryd.prog.types[4].bytes (ce (dl (Value.bool false))) (cI (TypeInfo.mk TypeDesc.bool "bool" 1 1 false 1 1 (some (Value.bool false)) true #[]).desc) (dM Tryd.prog 4)).size<=1]) krf (by exact⟨dcd,trivial⟩) omg trivial ⟨(fun _ _=>(by first|exact trivial|apply aW)),trivial⟩ krf rfl rfl) (Bs _))
theorem AM (R:Res)[Tab LT R](p:Prg)(v:Nat->Int)(es:List (Value × AV))(s:Step)(h:∀(R:Res) [Tab LT R] (g:R.σ),Does Tryd.prog R 139 [bo s,.ref 0 0] [cO 27 (ae p v (.mp 1)),.map es] g (.pan (.ifc 145 (.agg 0 (nth [])))) [cO 27 (ae p v (.mp 1)),.map es] g)(g:R.σ):Does Tryd.prog R 67 [.ref 0 0,.ifc 148 (bo s)] [cO 27 (ae p v (.mp 1)),.map es] g (.ret (.bool false)) [cO 27 (ae p v (.mp 1)),.map es] g:=by
 refine jJ (K:=100) (nt:=bE Tryd.prog 67) (rs:=cE Tryd.prog 67) (k0:=2) 5 [4] krf krf krf rfl krf krf dcd dcd ?_
 refine vcR [] (lkL [(0,[0,1,4])]) (fun _=>[]) (fun (Q:AEx->St R.σ->Prop)=>Q AEx.normal (St.mk [(0,ref 0 0),(1,ifc 148 (bo s)),(4,ref 2 0)] [cO 27 (ae p v (AV.mp 1)),AObj.map es,cO 1 fun (a:Nat)=>AV.bool false] g)) (?_)
 refine jK 3 [.ref 2 0] rfl rfl rfl ?_
 have hD:=fun (R:Res) [Tab LT R] (n:Nat) (c:Nat->AV) (g:R.σ)=>mi (R:=R) (fun _=>rfl) h n c g
 refine vcR [] (lkL [(2,[4])]) (lkL [(2,[(2,ROrc.ipan (ifc 145 (agg 0 (nth []))) [cO 27 (ae p v (AV.mp 1)),AObj.map es,cO 1 fun (a:Nat)=>AV.bool false] g)])]) (fun Q=>(fun (u1:List AObj)=>(true=true/\true=true/\Does Tryd.prog R 139 [bo s,ref 0 0] u1 g (Oc.pan (ifc 145 (agg 0 (nth [])))) u1 g)/\Q (AEx.pan (ifc 145 (agg 0 (nth [])))) (St.mk [(4,ref 2 0)] u1 g)) ([cO 27 (ae p v (AV.mp 1)),AObj.map es,cO 1 fun a=>AV.bool false])) ⟨⟨krf,rfl,(hD _ _ _ _)⟩,?_⟩
 refine⟨_,_,oS R p v es _ g,?_⟩
 refine(aq (bS 2 (AV.bool false) ([0+(TyI.mk (TypeInfo.mk TypeDesc.bool "bool" 1 1 false 1 1 (some (Value.bool false)) true #[]).desc Tryd.prog.types[4].size Tryd.prog.types[4].bytes (ce (dl (Value.bool false))) (cI (TypeInfo.mk TypeDesc.bool "bool" 1 1 false 1 1 (some (Value.bool false)) true #[]).desc) (dM Tryd.prog 4)).size<=1]) krf (by exact⟨dcd,trivial⟩) omg trivial ⟨(fun _ _=>(by first|exact trivial|apply aW)),trivial⟩ krf rfl rfl) (Bs _))
theorem AN (R:Res)[Tab LT R](p:Prg)(v:Nat->Int)(es:List (Value × AV))(s:Step)(hl:p.rules.l.length<1000000)(hr:∀r,r∈p.rules.l->aE r)(hes:HeadsOk es p.rules.l)(hp:1<=p.atoms/\p.atoms<=24)(hsl:s.atoms.l.length<1000000)(g:R.σ):Does Tryd.prog R 67 [.ref 0 0,db s] [cO 27 (ae p v (.mp 1)),.map es] g (.ret (.bool (okS p v s))) [cO 27 (ae p (if okS p v s then newS p v s else v) (.mp 1)),.map es] g:=by
 unfold okS newS db
 by_cases h:s.rule = -1
 ·rw[if_pos h,if_pos h,if_pos h]
  have hU:=fun (R:Res) [Tab LT R] (g:R.σ)=>AI R p v es s hl hr hes hp hsl g
  cases hu:dI p v s with
  |true=>
   simp only[hu] at hU
   exact AL R p v _ es s hU g
  |false=>
   simp only[hu] at hU
   exact AM R p v es s hU g
 ·rw[if_neg h,if_neg h,if_neg h]
  cases hu:dc p v s with
  |true=>exact AJ R p v _ es s (fun R _ g=>yk R p v es s hl hr hu g) g
  |false=>exact AK R p v es s (fun R _ g=>rU R p v es s hl hr hu g) g
end Go.Avm.Pack
namespace Go.Avm.Pack
open Go Go.Avm Go.Proofs
open Go.IntKind (i64 u64)
open Go.Avm.AV (int bool any fz fp sl ow ref fn ifc val agg tup)
open Go.Avm.AObj (cells dead)
open Go.Avm.Oc (ret)
set_option maxRecDepth 4000
def eC (p:Prg):List Step->(Nat->Int)->Nat->Int
 |[],_,_=> -1
 |s::l,v,i=>if okS p v s then eC p l (newS p v s) (i+1) else i
def di (p:Prg)(v:Nat->Int)(l:List Step):Nat->Int:=l.foldl (newS p) v
theorem AO {p:Prg}{v:Nat->Int}{l:List Step}{i:Nat}(h:i<l.length):di p v (l.take (i+1))=newS p (di p v (l.take i)) (l.getD i default):=iV (newS p) v l default h
theorem AP {f:Nat->Nat}{p:Prg}{v:Nat->Int}{j k m:Nat}(h:f k=m):aK f (ae p v (.mp k) j)=ae p v (.mp m) j:=by
 subst h
 unfold ae
 split
 ·rfl
 ·split
  ·rfl
  ·split <;> rfl
theorem tI (R:Res)[Tab LT R](p:Prg)(v:Nat->Int)(es:List (Value × AV))(s:Step)(n0 n3:Nat)(c0 c3:Nat->AV)(hl:p.rules.l.length<1000000)(hr:∀r,r∈p.rules.l->aE r)(hes:HeadsOk es p.rules.l)(hp:1<=p.atoms/\p.atoms<=24)(hsl:s.atoms.l.length<1000000)(g:R.σ):Does Tryd.prog R 67 [.ref 1 0,db s] [cO n0 c0,cO 27 (ae p v (.mp 2)),.map es,cO n3 c3] g (.ret (.bool (okS p v s))) [cO n0 c0,cO 27 (ae p (if okS p v s then newS p v s else v) (.mp 2)),.map es,cO n3 c3] g:=
 er (T:=LT) inferInstance [1,2] 4 (fun R _ g=>AN R p v es s hl hr hes hp hsl g) rfl rfl rfl ⟨BC (fun j hj=>(cb (f:=ar [1,2] 4) rfl).symm),rfl,trivial⟩ (by exact⟨dcd,trivial⟩) ⟨Bs _,bt (by unfold db;split <;> exact⟨⟨trivial,trivial⟩,trivial⟩),trivial⟩ (Bs _) ⟨Bv _,BC (fun j hj=>cb rfl),rfl,Bv _,trivial⟩
theorem AQ (R:Res)[Tab LT R](p:Prg)(l:KL Step)(hb:aD p=true)(hll:l.l.length<1000000)(hal:∀i,(l.l.getD i default).atoms.l.length<1000000)(g:R.σ):Does Tryd.prog R 23 [av p,aB l] [] g (.ret (.tup 2 (nth [.int .i64 (if 0<=eC p l.l (fun _=>3) 0 then eC p l.l (fun _=>3) 0 else 0),.int .i64 (if 0<=eC p l.l (fun _=>3) 0 then 7 else 0)]))) [] g:=by
 obtain⟨hl,hr,hp,hh,hx⟩:=ez hb
 have hs:eK p:=gZ hb
 have hp':1<=p.atoms/\p.atoms<=24:=hp
 refine spW (nt:=28) (rs:=[.tmp 4,.tmp 5]) (k0:=0) ?_
 have hc:((if aD p then(0:Int) else 2) != 0)=false:=by
  rw[hb]
  rfl
 refine vcR [[1,0,1,0]] (lkL [(0,[1,2]),(1,[1,2,11]),(3,[1,6]),(4,[6,14,15,16])]) (lkL [(1,[(1,ROrc.pcall (i6 (if aD p=true then 0 else 2)))]),(3,[(1,ROrc.call (ref 1 0) [cO 2 (nth [i6 p.atoms,ad p.rules]),cO 27 (ae p (fun (x:Nat)=>3) (AV.mp 2)),AObj.map (esF p.rules.l)] g)])]) (fun Q=>(fun (u1:AObj)=>(fun (u2:Int)=>(fun (u3:List AObj)=>2<=2/\(∀(hp:List AObj) (g:R.σ),true=true/\Does Tryd.prog R 16 [av p] hp g (ret (i6 u2)) hp g)/\((u2 != 0)=true->WpC Tryd.prog R 28 0 23 [1,0,1,0] Q [Kont.seq [1,1]] (St.mk [(1,aB l),(2,ref 0 0),(11,AV.bool (u2 != 0))] [u1] g))/\((u2 != 0)=false->2<=2/\(true=true/\Does Tryd.prog R 66 [av p] [u1] g (ret (ref 1 0)) u3 g)/\WpC Tryd.prog R 28 0 23 [1,1,1,0,1,0] Q [Kont.blk 0,Kont.seq [1,1,1,1]] (St.mk [(6,ref 1 0),(14,aB l),(15,i6 (↑(List.length l.l):Int)),(16,i6 0)] u3 g))) ([u1,cO 27 (ae p (fun (x:Nat)=>3) (AV.mp 2)),AObj.map (esF p.rules.l)])) (if aD p=true then 0 else 2)) (cO 2 (nth [i6 p.atoms,ad p.rules]))) ⟨omg,(fun _ _=>⟨rfl,(gP _ _ _ _ omg)⟩),fun hcc=>(nomatch (hc.symm.trans hcc)),fun _=>⟨omg,⟨rfl,(lX _ _ _ omg omg _)⟩,?_⟩⟩
 refine(a9 krf (fun (i:Nat)=>⟨[(6,ref 1 0),(14,aB l),(15,i6 (l.l.length:Int)),(16,.int .i64 i)],[cO 2 (nth [.int .i64 p.atoms,ad p.rules]),cO 27 (ae p (di p (fun _=>3) (l.l.take i)) (.mp 2)),.map (esF p.rules.l)],g⟩) (fun (i:Nat)=>(i<=l.l.length/\eC p l.l (fun _=>3) 0=eC p (l.l.drop i) (di p (fun _=>3) (l.l.take i)) i)) (fun (i:Nat)=>(l.l.length-i)) 0 (toL (h1:=⟨Bs _,Bs _,Bs _,(Bt krf),trivial⟩)) ?_ (fun i hi=>?_))
 ·exact⟨Nat.zero_le _,rfl⟩
 ·obtain⟨h1,h2⟩:=hi
  rcases Nat.lt_or_ge i l.l.length with hlt|hge
  ·rw[fQ l.l default hlt] at h2
   have hrt:=AO (p:=p) (v:=fun _=>3) hlt
   obtain⟨v,hv⟩:∃v,di p (fun _=>3) (l.l.take i)=v:=⟨_,rfl⟩
   rw[hv] at hrt h2 ⊢
   have h2:eC p l.l (fun _=>3) 0=if okS p v (l.l.getD i default) then eC p (l.l.drop (i+1)) (newS p v (l.l.getD i default)) (i+1) else i:=h2
   have hD:=fun (R:Res) [Tab LT R] (n0 n3:Nat) (c0 c3:Nat->AV) (g:R.σ)=>tI R p v (esF p.rules.l) (l.l.getD i default) n0 n3 c0 c3 hl hr (ol hr) hp (hal i) g
   cases hk:okS p v (l.l.getD i default) with
   |true=>
    simp only[hk,if_true] at hD
    rw[if_pos hk] at h2
    refine vcR [[1,1,1,0,1,0,0,1,1,0,0,1,1,0]] (lkL [(5,[6,14,15,16,17]),(6,[6,7,8,14,15,16]),(7,[6,7,14,15,16,25]),(9,[6,14,15,16])]) (lkL [(6,[(5,ROrc.val (Orc.obj (nth [i6 (List.getD l.l i default).rule,fz (List.getD l.l i default).atoms.2 1 (List.length (List.getD l.l i default).atoms.l) fun (i_1 x:Nat)=>af (List.getD l.l i default).atoms.l i_1])))]),(7,[(2,ROrc.pcall (db (List.getD l.l i default))),(3,ROrc.call (AV.bool true) [cO 2 (nth [i6 p.atoms,ad p.rules]),cO 27 (ae p (newS p v (List.getD l.l i default)) (AV.mp 2)),AObj.map (esF p.rules.l),cO 2 (nth [i6 (List.getD l.l i default).rule,fz (List.getD l.l i default).atoms.2 1 (List.length (List.getD l.l i default).atoms.l) fun (i_1 x:Nat)=>af (List.getD l.l i default).atoms.l i_1])] g)])]) (fun Q=>(fun (u1:List AV)=>(fun (u2:List AObj)=>(fun (u3:Int)=>(fun (u4:Int)=>(fun (u5:AObj)=>(decide (u4<u3)=true->(0<=u4/\u4<u3)/\2<=2/\2<=2/\(∀(c:Nat),c<2->nth u1 c=al (nth [i6 0,fz Fz.nil 0 0 fun x x_1=>any]) 0 2 (List.brecOn (motive:=fun (x:List AV)=>Nat->AV) u1 nth._f) c)/\2<=2/\(∀(hp:List AObj) (g:R.σ),true=true/\Does Tryd.prog R 68 [agg 2 (nth u1)] hp g (ret (db (List.getD l.l i default))) hp g)/\(true=true/\Does Tryd.prog R 67 [ref 1 0,evO [Row.mk (some 23) none (db (List.getD l.l i default)) false (some []) [],Row.mk (some 22) none (agg 2 (nth u1)) false (some []) [3],Row.mk (some 21) none (ref 1 0) false (some []) []] [(6,ref 1 0),(7,i6 u4),(8,ref 3 0),(14,aB l),(15,i6 u3),(16,i6 u4)] [] (Operand.tmp 23)] [u5,cO 27 (ae p v (AV.mp 2)),AObj.map (esF p.rules.l),cO 2 (nth u1)] g (ret (AV.bool true)) u2 g)/\(false=true->WpC Tryd.prog R 28 0 23 [1,1,1,0,1,0,0,1,1,0,0,1,1,0] Q [Kont.blk 1,Kont.seq [1,1,1,0,1,0,0,1,1,1]] (St.mk [(6,ref 1 0),(7,i6 u4),(14,aB l),(15,i6 u3),(16,i6 u4),(25,AV.bool false)] u2 g))/\(false=false->(-9223372036854775808<=u4+1/\u4+1<=9223372036854775807)/\Q AEx.normal (St.mk [(6,ref 1 0),(14,aB l),(15,i6 u3),(16,i6 (u4+1))] u2 g)))/\(decide (u4<u3)=false->Q (AEx.exit 0) (St.mk [(6,ref 1 0),(14,aB l),(15,i6 u3),(16,i6 u4),(17,AV.bool (decide (u4<u3)))] [u5,cO 27 (ae p v (AV.mp 2)),AObj.map (esF p.rules.l)] g))) (cO 2 (nth [i6 p.atoms,ad p.rules]))) ((↑i:Int))) ((↑(List.length l.l):Int))) ([cO 2 (nth [i6 p.atoms,ad p.rules]),cO 27 (ae p (newS p v (List.getD l.l i default)) (AV.mp 2)),AObj.map (esF p.rules.l),cO 2 (nth u1)])) ([i6 (List.getD l.l i default).rule,fz (List.getD l.l i default).atoms.2 1 (List.length (List.getD l.l i default).atoms.l) fun i_1 x=>af (List.getD l.l i default).atoms.l i_1])) ⟨fun c1=>have c1:(↑i:Int)<(↑(List.length l.l):Int):=(of_decide_eq_true c1);⟨omg,omg,omg,(fun c hc=>match c,hc with|0,_=>krf|1,_=>krf ),omg,(fun _ _=>⟨rfl,(lI _ _ _ _)⟩),⟨rfl,(hD _ _ _ _ _ _)⟩,fun h=>(nomatch h),fun _=>⟨omg,?_⟩⟩,fun c1=>have c1:¬(↑i:Int)<(↑(List.length l.l):Int):=(of_decide_eq_false c1);?_⟩
    ·refine(aO (i+1) (toS [0,1,2] 4 (hob:=⟨⟨rfl,Nat.le_refl _,fun j hj=>match j,hj with|0,_=>(Bs _)|1,_=>(Bs _) ⟩,(BC (fun j hj=>?_)),rfl,trivial⟩)) ?_ ?_)
     ·rw[hrt]
      exact(AP (f:=ar [0,1,2] 4) (k:=2) rfl).symm
     ·refine⟨omg,?_⟩
      rw[hrt]
      exact h2
     ·omega
    ·exfalso;omega
   |false=>
    simp only[hk,if_false] at hD
    rw[if_neg (by rw[hk];decide)] at h2
    rw[h2,if_pos omg,if_pos omg]
    refine vcR [[1,1,1,0,1,0,0,1,1,0,0,1,1,1]] (lkL [(5,[6,14,15,16,17]),(6,[6,7,8,14,15,16]),(7,[6,7,14,15,16,25]),(8,[4,5])]) (lkL [(6,[(5,ROrc.val (Orc.obj (nth [i6 (List.getD l.l i default).rule,fz (List.getD l.l i default).atoms.2 1 (List.length (List.getD l.l i default).atoms.l) fun (i_1 x:Nat)=>af (List.getD l.l i default).atoms.l i_1])))]),(7,[(2,ROrc.pcall (db (List.getD l.l i default))),(3,ROrc.call (AV.bool false) [cO 2 (nth [i6 p.atoms,ad p.rules]),cO 27 (ae p (if false=true then newS p v (List.getD l.l i default) else v) (AV.mp 2)),AObj.map (esF p.rules.l),cO 2 (nth [i6 (List.getD l.l i default).rule,fz (List.getD l.l i default).atoms.2 1 (List.length (List.getD l.l i default).atoms.l) fun (i_1 x:Nat)=>af (List.getD l.l i default).atoms.l i_1])] g)])]) (fun Q=>(fun (u1:List AV)=>(fun (u2:List AObj)=>(fun (u3:Int)=>(fun (u4:Int)=>(fun (u5:AObj)=>(decide (u4<u3)=true->(0<=u4/\u4<u3)/\2<=2/\2<=2/\(∀(c:Nat),c<2->nth u1 c=al (nth [i6 0,fz Fz.nil 0 0 fun x x_1=>any]) 0 2 (List.brecOn (motive:=fun (x:List AV)=>Nat->AV) u1 nth._f) c)/\2<=2/\(∀(hp:List AObj) (g:R.σ),true=true/\Does Tryd.prog R 68 [agg 2 (nth u1)] hp g (ret (db (List.getD l.l i default))) hp g)/\(true=true/\Does Tryd.prog R 67 [ref 1 0,evO [Row.mk (some 23) none (db (List.getD l.l i default)) false (some []) [],Row.mk (some 22) none (agg 2 (nth u1)) false (some []) [3],Row.mk (some 21) none (ref 1 0) false (some []) []] [(6,ref 1 0),(7,i6 u4),(8,ref 3 0),(14,aB l),(15,i6 u3),(16,i6 u4)] [] (Operand.tmp 23)] [u5,cO 27 (ae p v (AV.mp 2)),AObj.map (esF p.rules.l),cO 2 (nth u1)] g (ret (AV.bool false)) u2 g)/\(true=true->Q AEx.ret (St.mk [(4,i6 u4),(5,i6 7)] u2 g))/\(true=false->WpC Tryd.prog R 28 0 23 [1,1,1,0,1,0,0,1,1,0,0,1,1,1] Q [Kont.blk 1,Kont.seq [1,1,1,0,1,0,0,1,1,1]] (St.mk [(6,ref 1 0),(7,i6 u4),(14,aB l),(15,i6 u3),(16,i6 u4),(25,AV.bool true)] u2 g)))/\(decide (u4<u3)=false->Q (AEx.exit 0) (St.mk [(6,ref 1 0),(14,aB l),(15,i6 u3),(16,i6 u4),(17,AV.bool (decide (u4<u3)))] [u5,cO 27 (ae p v (AV.mp 2)),AObj.map (esF p.rules.l)] g))) (cO 2 (nth [i6 p.atoms,ad p.rules]))) ((↑i:Int))) ((↑(List.length l.l):Int))) ([cO 2 (nth [i6 p.atoms,ad p.rules]),cO 27 (ae p (if false=true then newS p v (List.getD l.l i default) else v) (AV.mp 2)),AObj.map (esF p.rules.l),cO 2 (nth u1)])) ([i6 (List.getD l.l i default).rule,fz (List.getD l.l i default).atoms.2 1 (List.length (List.getD l.l i default).atoms.l) fun i_1 x=>af (List.getD l.l i default).atoms.l i_1])) ⟨fun c1=>have c1:(↑i:Int)<(↑(List.length l.l):Int):=(of_decide_eq_true c1);⟨omg,omg,omg,(fun c hc=>match c,hc with|0,_=>krf|1,_=>krf ),omg,(fun _ _=>⟨rfl,(lI _ _ _ _)⟩),⟨rfl,(hD _ _ _ _ _ _)⟩,fun _=>?_,fun h=>(nomatch h)⟩,fun c1=>have c1:¬(↑i:Int)<(↑(List.length l.l):Int):=(of_decide_eq_false c1);?_⟩
    ·refine⟨_,BE _,(aq (bw _ _ rfl trivial ⟨⟨trivial,trivial⟩,trivial⟩ rfl) (Bs _))⟩
    ·exfalso;omega
  ·have hie:i=l.l.length:=by omega
   subst hie
   rw[List.drop_length] at h2
   have h2:eC p l.l (fun _=>3) 0 = -1:=h2
   rw[h2,if_neg omg,if_neg omg]
   refine vcR [] (lkL [(5,[6,14,15,16,17]),(6,[6,7,8,14,15,16]),(7,[6,7,14,15,16,25]),(8,[4,5]),(9,[6,14,15,16])]) (lkL [(6,[(5,ROrc.val (Orc.obj (nth [i6 (List.getD l.l (List.length l.l) default).rule,fz (List.getD l.l (List.length l.l) default).atoms.2 1 (List.length (List.getD l.l (List.length l.l) default).atoms.l) fun (i x:Nat)=>af (List.getD l.l (List.length l.l) default).atoms.l i])))]),(7,[(2,ROrc.pcall (db (List.getD l.l (List.length l.l) default))),(3,ROrc.call (AV.bool (okS p (di p (fun (x:Nat)=>3) (List.take (List.length l.l) l.l)) (List.getD l.l (List.length l.l) default))) [cO 2 (nth [i6 p.atoms,ad p.rules]),cO 27 (ae p (if okS p (di p (fun (x:Nat)=>3) (List.take (List.length l.l) l.l)) (List.getD l.l (List.length l.l) default)=true then newS p (di p (fun (x:Nat)=>3) (List.take (List.length l.l) l.l)) (List.getD l.l (List.length l.l) default) else di p (fun (x:Nat)=>3) (List.take (List.length l.l) l.l)) (AV.mp 2)),AObj.map (esF p.rules.l),cO 2 (nth [i6 (List.getD l.l (List.length l.l) default).rule,fz (List.getD l.l (List.length l.l) default).atoms.2 1 (List.length (List.getD l.l (List.length l.l) default).atoms.l) fun (i x:Nat)=>af (List.getD l.l (List.length l.l) default).atoms.l i])] g)])]) (fun Q=>(fun (u1:List AV)=>(fun (u2:List AObj)=>(fun (u3:Int)=>(fun (u4:Bool)=>(fun (u5:AObj)=>(fun (u6:AObj)=>(decide (u3<u3)=true->(0<=u3/\u3<u3)/\2<=2/\2<=2/\(∀(c:Nat),c<2->nth u1 c=al (nth [i6 0,fz Fz.nil 0 0 fun x x_1=>any]) 0 2 (List.brecOn (motive:=fun (x:List AV)=>Nat->AV) u1 nth._f) c)/\2<=2/\(∀(hp:List AObj) (g:R.σ),true=true/\Does Tryd.prog R 68 [agg 2 (nth u1)] hp g (ret (db (List.getD l.l (List.length l.l) default))) hp g)/\(true=true/\Does Tryd.prog R 67 [ref 1 0,evO [Row.mk (some 23) none (db (List.getD l.l (List.length l.l) default)) false (some []) [],Row.mk (some 22) none (agg 2 (nth u1)) false (some []) [3],Row.mk (some 21) none (ref 1 0) false (some []) []] [(6,ref 1 0),(7,i6 u3),(8,ref 3 0),(14,aB l),(15,i6 u3),(16,i6 u3)] [] (Operand.tmp 23)] [u6,u5,AObj.map (esF p.rules.l),cO 2 (nth u1)] g (ret (AV.bool u4)) u2 g)/\((!u4)=true->Q AEx.ret (St.mk [(4,i6 u3),(5,i6 7)] u2 g))/\((!u4)=false->(-9223372036854775808<=u3+1/\u3+1<=9223372036854775807)/\Q AEx.normal (St.mk [(6,ref 1 0),(14,aB l),(15,i6 u3),(16,i6 (u3+1))] u2 g)))/\(decide (u3<u3)=false->Q (AEx.exit 0) (St.mk [(6,ref 1 0),(14,aB l),(15,i6 u3),(16,i6 u3),(17,AV.bool (decide (u3<u3)))] [u6,u5,AObj.map (esF p.rules.l)] g))) (cO 2 (nth [i6 p.atoms,ad p.rules]))) (cO 27 (ae p (di p (fun (x:Nat)=>3) (List.take (List.length l.l) l.l)) (AV.mp 2)))) (okS p (di p (fun (x:Nat)=>3) (List.take (List.length l.l) l.l)) (List.getD l.l (List.length l.l) default))) ((↑(List.length l.l):Int))) ([cO 2 (nth [i6 p.atoms,ad p.rules]),cO 27 (ae p (if okS p (di p (fun (x:Nat)=>3) (List.take (List.length l.l) l.l)) (List.getD l.l (List.length l.l) default)=true then newS p (di p (fun (x:Nat)=>3) (List.take (List.length l.l) l.l)) (List.getD l.l (List.length l.l) default) else di p (fun (x:Nat)=>3) (List.take (List.length l.l) l.l)) (AV.mp 2)),AObj.map (esF p.rules.l),cO 2 (nth u1)])) ([i6 (List.getD l.l (List.length l.l) default).rule,fz (List.getD l.l (List.length l.l) default).atoms.2 1 (List.length (List.getD l.l (List.length l.l) default).atoms.l) fun i x=>af (List.getD l.l (List.length l.l) default).atoms.l i])) ⟨fun c1=>have c1:(↑(List.length l.l):Int)<(↑(List.length l.l):Int):=(of_decide_eq_true c1);⟨omg,omg,omg,(fun c hc=>match c,hc with|0,_=>krf|1,_=>krf ),omg,(fun _ _=>⟨rfl,(lI _ _ _ _)⟩),⟨rfl,(tI _ _ _ _ _ _ _ _ _ omg omg (by simp at * <;> omega) omg (by simp at * <;> omega) _)⟩,fun c2=>have c2:okS p (di p (fun (x:Nat)=>3) (List.take (List.length l.l) l.l)) (List.getD l.l (List.length l.l) default)=false:=((Bool.not_eq_true' _).mp c2);?_,fun c2=>have c2:okS p (di p (fun (x:Nat)=>3) (List.take (List.length l.l) l.l)) (List.getD l.l (List.length l.l) default)=true:=((Bool.not_eq_false' _).mp c2);⟨omg,?_⟩⟩,fun c1=>have c1:¬(↑(List.length l.l):Int)<(↑(List.length l.l):Int):=(of_decide_eq_false c1);?_⟩
   all_goals first|(exfalso;omega)|skip
   refine⟨_,BE _,vcR [] (lkL [(10,[4,5])]) (fun _=>[]) (fun (Q:AEx->St R.σ->Prop)=>Q AEx.ret (St.mk [(4,i6 0),(5,i6 0)] [cO 2 (nth [i6 p.atoms,ad p.rules]),cO 27 (ae p (di p (fun (x:Nat)=>3) (List.take (List.length l.l) l.l)) (AV.mp 2)),AObj.map (esF p.rules.l)] g)) (?_)⟩
   refine(aq (bw _ _ rfl trivial ⟨⟨trivial,trivial⟩,trivial⟩ rfl) (Bs _))
section
variable {p:Prg}{n:Nat}{v:List Int}{f:Nat->Int}
theorem AR {l:List Int}(h:∀a,a∈l->0<=a)(j:Nat):(aV l).testBit j=true↔(j:Int)∈l:=by
 rw[sf,List.any_eq_true]
 constructor
 ·rintro ⟨a,ha,hj⟩
  have:=h a ha
  have:a.toNat=j:=eq_of_beq hj
  have:a=j:=by omega
  rw[<-this];exact ha
 ·intro hm
  exact⟨j,hm,by simp⟩
end
end Go.Avm.Pack
namespace Go.Avm.Pack
open Go Go.Avm Go.Proofs
open Go.IntKind (i64 u64)
open Go.Avm.AV (int bool any fz fp sl ow ref fn ifc val agg tup)
open Go.Avm.AObj (cells dead)
open Go.Avm.Oc (ret)
set_option maxRecDepth 4000
theorem AS (R:Res)(a b:KL Int)(hp:List AObj)(g:R.σ)(ha:a.l.length<1000000):Does Tryd.prog R 48 [ah a,ah b] hp g (.ret (.bool (decide (a.l=b.l)))) hp g:=by
 refine bx (fun R g=>?_) (by exact⟨trivial,trivial,trivial⟩) R hp g
 refine spW (nt:=26) (rs:=[.tmp 4]) (k0:=0) ?_
 refine vcR [] (lkL [(0,[0,1]),(1,[0,1,10]),(2,[4]),(3,[0,1,12,13])]) (fun _=>[]) (fun Q=>(fun (u1:Bool)=>(u1=true->Q AEx.ret (St.mk [(4,AV.bool false)] [] g))/\(u1=false->WpC Tryd.prog R 26 0 48 [1,1,0,1,0] Q [Kont.blk 0,Kont.seq [1,1,1]] (St.mk [(0,ah a),(1,ah b),(12,i6 (↑(List.length a.l):Int)),(13,i6 0)] [] g))) ((↑(List.length a.l):Int) != (↑(List.length b.l):Int))) ⟨fun c1=>have c1:¬(↑(List.length a.l):Int)=(↑(List.length b.l):Int):=(bne_iff_ne.mp c1);?_,fun c1=>have c1:(↑(List.length a.l):Int)=(↑(List.length b.l):Int):=(bne_eq_false_iff_eq.mp c1);?_⟩
 ·have hne:a.l≠b.l:=fun e=>by
   rw[e] at c1
   omega
  rw[decide_eq_false hne]
  refine(aq (aP _ _ rfl trivial rfl rfl rfl) (Bs _))
 ·have hle:a.l.length=b.l.length:=by omega
  refine(a9 krf (fun (i:Nat)=>⟨[(0,ah a),(1,ah b),(12,i6 (a.l.length:Int)),(13,.int .i64 i)],[],g⟩) (fun (i:Nat)=>(i<=a.l.length/\∀j,j<i->a.l.getD j 0=b.l.getD j 0)) (fun (i:Nat)=>(a.l.length-i)) 0 (aT ⟨Bs _,Bs _,Bs _,(Bt krf),trivial⟩ rfl rfl) ?_ (fun i hi=>?_))
  ·exact⟨Nat.zero_le _,fun j hj=>absurd hj (Nat.not_lt_zero _)⟩
  ·obtain⟨h1,h2⟩:=hi
   refine vcR [] (lkL [(4,[0,1,12,13,14]),(5,[0,1,5,12,13]),(6,[0,1,12,13,24]),(7,[4]),(8,[0,1,12,13])]) (fun _=>[]) (fun Q=>(fun (u1:Int)=>(fun (u2:Int)=>(decide (u2<u1)=true->Flw Tryd.prog/\(0<=u2/\u2<u1)/\1<=1/\(0<=u2/\u2<(↑(List.length b.l):Int))/\1<=1/\((List.getD a.l i 0 != List.getD b.l i 0)=true->Q AEx.ret (St.mk [(4,AV.bool false)] [] g))/\((List.getD a.l i 0 != List.getD b.l i 0)=false->(-9223372036854775808<=u2+1/\u2+1<=9223372036854775807)/\Q AEx.normal (St.mk [(0,ah a),(1,ah b),(12,i6 u1),(13,i6 (u2+1))] [] g)))/\(decide (u2<u1)=false->Q (AEx.exit 0) (St.mk [(0,ah a),(1,ah b),(12,i6 u1),(13,i6 u2),(14,AV.bool (decide (u2<u1)))] [] g))) ((↑i:Int))) ((↑(List.length a.l):Int))) ⟨fun c1=>have c1:(↑i:Int)<(↑(List.length a.l):Int):=(of_decide_eq_true c1);⟨krf,omg,omg,omg,omg,fun c2=>have c2:¬List.getD a.l i 0=List.getD b.l i 0:=(bne_iff_ne.mp c2);?_,fun c2=>have c2:List.getD a.l i 0=List.getD b.l i 0:=(bne_eq_false_iff_eq.mp c2);⟨omg,?_⟩⟩,fun c1=>have c1:¬(↑i:Int)<(↑(List.length a.l):Int):=(of_decide_eq_false c1);?_⟩
   ·have hne:a.l≠b.l:=fun e=>by
     rw[e] at c2
     exact c2 rfl
    rw[decide_eq_false hne]
    refine⟨_,BE _,(aq (aP _ _ rfl trivial rfl rfl rfl) (Bs _))⟩
   ·refine(aO (i+1) (aT ⟨Bs _,Bs _,Bs _,(Bt krf),trivial⟩ rfl rfl) ?_ ?_)
    ·refine⟨omg,fun j hj=>?_⟩
     rcases Nat.lt_or_ge j i with h|h
     ·exact h2 j h
     ·have:j=i:=by omega
      subst this
      exact c2
    ·omega
   ·have hie:i=a.l.length:=by omega
    subst hie
    have he:a.l=b.l:=ly 0 hle (fun j hj=>h2 j hj)
    rw[decide_eq_true he]
    refine⟨_,BE _,vcR [] (lkL [(9,[4])]) (fun _=>[]) (fun (Q:AEx->St R.σ->Prop)=>Q AEx.ret (St.mk [(4,AV.bool true)] [] g)) (?_)⟩
    refine(aq (aP _ _ rfl trivial rfl rfl rfl) (Bs _))
theorem AT (R:Res)(x:Int)(l:KL Int)(n:Nat)(h0:0<n)(hn:n<25)(hl:l=⟨[x],.exa⟩)(g:R.σ):Does Tryd.prog R 46 [ah l,.int .i64 n] [] g (.ret (.sl 0 0 n n true 1)) [cO (n*1) (eR x n)] g:=by
 have hll:l.l.length=1:=by rw[hl];rfl
 have hroom:aC=140737488355328:=rfl
 refine spW (nt:=48) (rs:=[.tmp 4]) (k0:=0) ?_
 refine vcR [[1,0,1,0]] (lkL [(0,[0,1]),(1,[0,1,10]),(3,[0,5,6]),(4,[0,6,26]),(5,[0,6]),(6,[0,7]),(7,[7,8])]) (lkL [(3,[(2,ROrc.kop (int u64 1)),(4,ROrc.kop (int u64 (↑n:Int))),(5,ROrc.pcall (tup 2 (nth [int u64 0,int u64 (↑n:Int)])))]),(6,[(1,ROrc.kop (i6 (↑n:Int)))]),(7,[(2,ROrc.own (i6 (↑1:Int)) [cO (n*1) (eR x 1)] g)])]) (fun Q=>(fun (u1:Int)=>(fun (u2:List Row)=>(fun (u3:Bool)=>(fun (u4:List (Nat × AV))=>(fun (u5:AObj)=>(false=true->WpC Tryd.prog R 48 0 46 [1,0,1,0] Q [Kont.seq [1,1]] (St.mk u4 [] g))/\(false=false->OpOk Tryd.prog R (Oper.mk (some 15) (Op.convert 3 134 (Operand.tmp 14)) 134 "slices.go:520" #[Edge.mk 1 Ground.data] none) (evO u2 u4 []) [] g (int u64 1) [] g/\OpOk Tryd.prog R (Oper.mk (some 17) (Op.convert 3 134 (Operand.tmp 16)) 134 "slices.go:520" #[Edge.mk 3 Ground.data] none) (evO (Row.mk (some 16) none (i6 u1) false (some []) []::Row.mk (some 15) none (int u64 1) true (some []) []::u2) u4 []) [] g (int u64 u1) [] g/\(∀(hp:List AObj) (g:R.σ),true=true/\Does Tryd.prog R 93 [int u64 1,int u64 u1] hp g (ret (tup 2 (nth [int u64 0,int u64 u1]))) hp g)/\(u3=true->Q (AEx.pan (ifc 9 (AV.str (ByteArray.mk #[116,104,101,32,114,101,115,117,108,116,32,111,102,32,40,108,101,110,40,120,41,32,42,32,99,111,117,110,116,41,32,111,118,101,114,102,108,111,119,115])))) (St.mk [(0,ah l),(6,int u64 u1)] [] g))/\(u3=false->OpOk Tryd.prog R (Oper.mk (some 29) (Op.convert 134 3 (Operand.tmp 28)) 3 "slices.go:525" #[Edge.mk 0 Ground.data] none) (evO [Row.mk (some 28) none (int u64 u1) false (some []) []] [(0,ah l),(6,int u64 u1),(26,AV.bool u3)] []) [] g (i6 u1) [] g/\0<=u1/\u1<=u1/\u1<=140737488355328/\n*8<=aC/\OpOk Tryd.prog R (Oper.mk (some 33) (Op.call (Call.mk (Callee.builtin Builtin.copy) #[Operand.tmp 31,Operand.tmp 32] #[30,30])) 3 "slices.go:526" #[Edge.mk 0 Ground.data,Edge.mk 1 Ground.data] none) (evO [Row.mk (some 32) none (ah l) false (some []) [],Row.mk (some 31) none (sl 0 0 n n true 1) false (some []) []] [(0,ah l),(7,sl 0 0 n n true 1)] []) [cO (n*1) fun j=>i6 0] g (i6 (↑1:Int)) [u5] g/\WpC Tryd.prog R 48 0 46 [1,1,1,1,1,1,0,0] Q [Kont.blk 0,Kont.seq [1,1,1,1,1,1,1]] (St.mk [(7,sl 0 0 n n true 1),(8,i6 (↑1:Int))] [u5] g)))) (cO (n*1) fun a=>i6 (if a<1 then x else 0))) ([(0,ah l),(1,i6 u1),(10,AV.bool false)])) (bif false then true else decide (u1 > 9223372036854775807))) ([Row.mk (some 14) none (i6 (↑(List.length l.l):Int)) false (some []) [],Row.mk (some 13) none (ah l) false (some []) []])) ((↑n:Int))) ⟨fun h=>(nomatch h),fun _=>⟨?_,?_,(fun _ _=>⟨rfl,(tq _ _ omg _ _)⟩),fun c1=>have c1:false=true∨(↑n:Int) > 9223372036854775807:=((eq c1).imp (fun h=>h) (fun h=>(of_decide_eq_true h)));?_,fun c1=>have c1:false=false/\¬(↑n:Int) > 9223372036854775807:=⟨(bY c1).1,(of_decide_eq_false (bY c1).2)⟩;⟨?_,omg,omg,omg,omg,?_,?_⟩⟩⟩
 ·exact fM (out:=⟨.int .u64 (IntKind.u64.wrap (l.l.length:Int)),[],[],.pure⟩) krf trivial (Bt (by rw[hll];kernel_rfl))
 ·exact fM (out:=⟨.int .u64 (IntKind.u64.wrap (n:Int)),[],[],.pure⟩) krf trivial (Bt (tr hn))
 ·rcases c1 with h|h
  ·cases h
  ·omega
 ·exact fM (out:=⟨.int .i64 (IntKind.i64.wrap (n:Int)),[],[],.pure⟩) krf trivial (Bt (tt hn))
 ·refine lh (t:=30) (es:=1) (N:=n*1) (n:=l.l.length) (len:=n) (ob:=0) (off:=0) (cap:=n) (ex:=true) (get0:=fun _=>.int .i64 0) (get':=eR x 1) (new:=fun i _=>.int .i64 (l.l.getD i 0)) (ob1:=[]) 1 rfl rfl rfl rfl rfl rfl krf rfl trivial (by rw[hll];omega) dcd dcd omg (fun c hc=>?_)
  show AV.int .i64 (if c<1 then x else 0)=if 0<=c/\c<0+1*1 then AV.int .i64 (l.l.getD ((c-0)/1) 0) else AV.int .i64 0
  by_cases h:c<1
  ·rw[if_pos h,if_pos omg,show(c-0)/1=0 by omega,hl]
   rfl
  ·rw[if_neg h,if_neg omg]
 ·refine(a9 krf (fun (m:Nat)=>⟨[(7,sl 0 0 n n true 1),(8,.int .i64 m)],[cO (n*1) (eR x m)],g⟩) (fun (m:Nat)=>(0<m/\m<=n)) (fun (m:Nat)=>(n-m)) 1 (aT ⟨Bs _,(Bt krf),trivial⟩ rfl rfl) ?_ (fun m hi=>?_))
  ·omega
  ·obtain⟨h1,h2⟩:=hi
   obtain⟨q,hq⟩:∃q,q=min m (n-m):=⟨_,rfl⟩
   refine vcR [] (lkL [(8,[7,8,37]),(9,[7,8])]) (lkL [(9,[(7,ROrc.own (i6 (↑q:Int)) [cO (n*1) (eR x (m+q))] g)])]) (fun Q=>(fun (u1:Int)=>(fun (u2:Int)=>(fun (u3:AObj)=>(fun (u4:AObj)=>(fun (u5:AV)=>(decide (u1<u2)=true->Flw Tryd.prog/\n<=n/\(0<=u1/\u1<=u2)/\m<n/\(0<=u1/\u1<=u2)/\0<n/\OpOk Tryd.prog R (Oper.mk (some 45) (Op.call (Call.mk (Callee.builtin Builtin.copy) #[Operand.tmp 41,Operand.tmp 44] #[30,30])) 3 "slices.go:528" #[Edge.mk 3 Ground.data,Edge.mk 6 Ground.data] none) (evO [Row.mk (some 44) none (sl 0 0 (m-0) (n-0) true 1) false (some []) [],Row.mk (some 43) none (i6 u1) false (some []) [],Row.mk (some 42) none u5 false (some []) [],Row.mk (some 41) none (sl 0 (0+m*1) (n-m) (n-m) true 1) false (some []) [],Row.mk (some 40) none (i6 u1) false (some []) [],Row.mk (some 39) none u5 false (some []) [],Row.mk (some 38) none (i6 u1) false (some []) []] [(7,u5),(8,i6 u1),(37,AV.bool (decide (u1<u2)))] []) [u4] g (i6 (↑q:Int)) [u3] g/\(-9223372036854775808<=u1+(↑q:Int)/\u1+(↑q:Int)<=9223372036854775807)/\Q AEx.normal (St.mk [(7,u5),(8,i6 (u1+(↑q:Int)))] [u3] g))/\(decide (u1<u2)=false->Q (AEx.exit 0) (St.mk [(7,u5),(8,i6 u1),(37,AV.bool (decide (u1<u2)))] [u4] g))) (sl 0 0 n n true 1)) (cO (n*1) fun a=>i6 (if a<m then x else 0))) (cO (n*1) fun a=>i6 (if a<m+q then x else 0))) ((↑n:Int))) ((↑m:Int))) ⟨fun c1=>have c1:(↑m:Int)<(↑n:Int):=(of_decide_eq_true c1);⟨krf,omg,omg,omg,omg,omg,?_,omg,?_⟩,fun c1=>have c1:¬(↑m:Int)<(↑n:Int):=(of_decide_eq_false c1);?_⟩
   ·refine lh (t:=30) (es:=1) (N:=n*1) (n:=m-0) (len:=n-m) (ob:=0) (off:=0+m*1) (cap:=n-m) (ex:=true) (get0:=eR x m) (get':=eR x (m+q)) (new:=fun i j=>eR x m (0+i*1+j)) (ob1:=[0+(m-0)*1<=n*1]) q rfl rfl rfl rfl rfl rfl krf rfl ⟨omg,trivial⟩ omg omg dcd omg (fun c hc=>?_)
    show AV.int .i64 (if c<m+q then x else 0)=if 0+m*1<=c/\c<0+m*1+q*1 then AV.int .i64 (if 0+(c-(0+m*1))/1*1+(c-(0+m*1))%1<m then x else 0) else AV.int .i64 (if c<m then x else 0)
    by_cases h:0+m*1<=c/\c<0+m*1+q*1
    ·rw[if_pos h,if_pos omg,if_pos omg]
    ·rw[if_neg h]
     congr 1
     by_cases h2:c<m
     ·rw[if_pos h2,if_pos omg]
     ·rw[if_neg h2,if_neg omg]
   ·refine(aO (m+q) (aT ⟨Bs _,(Bt krf),trivial⟩ rfl rfl) ?_ ?_)
    ·omega
    ·omega
   ·have:m=n:=by omega
    subst this
    refine⟨_,BE _,vcR [] (lkL [(10,[4])]) (fun _=>[]) (fun (Q:AEx->St R.σ->Prop)=>Q AEx.ret (St.mk [(4,sl 0 0 m m true 1)] [cO (m*1) fun (a:Nat)=>i6 (if a<m then x else 0)] g)) (?_)⟩
    refine(aq (aP _ _ rfl trivial rfl rfl rfl) (Bs _))
theorem AU (R:Res)(x:Int)(l:KL Int)(n:Nat)(h0:0<n)(hn:n<25)(hl:l=⟨[x],.exa⟩)(hp:List AObj)(g:R.σ):Does Tryd.prog R 46 [ah l,.int .i64 n] hp g (.ret (.sl hp.length 0 n n true 1)) (hp++[cO (n*1) (eR x n)]) g:=
 eI [] hp.length (fun R g=>AT R x l n h0 hn hl g) rfl rfl rfl trivial trivial ⟨Bs _,Bs _,trivial⟩ (Bs _) (lA _)
def ko (l:List Bool):AV:=.fz .exa 1 l.length (fun i _=>.bool (l.getD i false))
def eD (x:Bool)(m:Nat):Nat->AV:=fun c=>.bool (if c<m then x else false)
theorem AW (R:Res)(x:Bool)(l:List Bool)(n:Nat)(h0:0<n)(hn:n<25)(hl:l=[x])(g:R.σ):Does Tryd.prog R 49 [ko l,.int .i64 n] [] g (.ret (.sl 0 0 n n true 1)) [cO (n*1) (eD x n)] g:=by
 have hll:l.length=1:=by rw[hl];rfl
 have hroom:aC=140737488355328:=rfl
 refine spW (nt:=48) (rs:=[.tmp 4]) (k0:=0) ?_
 refine vcR [[1,0,1,0]] (lkL [(0,[0,1]),(1,[0,1,10]),(3,[0,5,6]),(4,[0,6,26]),(5,[0,6]),(6,[0,7]),(7,[7,8])]) (lkL [(3,[(2,ROrc.kop (int u64 1)),(4,ROrc.kop (int u64 (↑n:Int))),(5,ROrc.pcall (tup 2 (nth [int u64 0,int u64 (↑n:Int)])))]),(6,[(1,ROrc.kop (i6 (↑n:Int)))]),(7,[(2,ROrc.own (i6 (↑1:Int)) [cO (n*1) (eD x 1)] g)])]) (fun Q=>(fun (u1:AV)=>(fun (u2:Int)=>(fun (u3:List Row)=>(fun (u4:Bool)=>(fun (u5:List (Nat × AV))=>(fun (u6:AObj)=>(false=true->WpC Tryd.prog R 48 0 49 [1,0,1,0] Q [Kont.seq [1,1]] (St.mk u5 [] g))/\(false=false->OpOk Tryd.prog R (Oper.mk (some 15) (Op.convert 3 134 (Operand.tmp 14)) 134 "slices.go:520" #[Edge.mk 1 Ground.data] none) (evO u3 u5 []) [] g (int u64 1) [] g/\OpOk Tryd.prog R (Oper.mk (some 17) (Op.convert 3 134 (Operand.tmp 16)) 134 "slices.go:520" #[Edge.mk 3 Ground.data] none) (evO (Row.mk (some 16) none (i6 u2) false (some []) []::Row.mk (some 15) none (int u64 1) true (some []) []::u3) u5 []) [] g (int u64 u2) [] g/\(∀(hp:List AObj) (g:R.σ),true=true/\Does Tryd.prog R 93 [int u64 1,int u64 u2] hp g (ret (tup 2 (nth [int u64 0,int u64 u2]))) hp g)/\(u4=true->Q (AEx.pan (ifc 9 (AV.str (ByteArray.mk #[116,104,101,32,114,101,115,117,108,116,32,111,102,32,40,108,101,110,40,120,41,32,42,32,99,111,117,110,116,41,32,111,118,101,114,102,108,111,119,115])))) (St.mk [(0,u1),(6,int u64 u2)] [] g))/\(u4=false->OpOk Tryd.prog R (Oper.mk (some 29) (Op.convert 134 3 (Operand.tmp 28)) 3 "slices.go:525" #[Edge.mk 0 Ground.data] none) (evO [Row.mk (some 28) none (int u64 u2) false (some []) []] [(0,u1),(6,int u64 u2),(26,AV.bool u4)] []) [] g (i6 u2) [] g/\0<=u2/\u2<=u2/\u2<=140737488355328/\n*1<=aC/\OpOk Tryd.prog R (Oper.mk (some 33) (Op.call (Call.mk (Callee.builtin Builtin.copy) #[Operand.tmp 31,Operand.tmp 32] #[62,62])) 3 "slices.go:526" #[Edge.mk 0 Ground.data,Edge.mk 1 Ground.data] none) (evO [Row.mk (some 32) none u1 false (some []) [],Row.mk (some 31) none (sl 0 0 n n true 1) false (some []) []] [(0,u1),(7,sl 0 0 n n true 1)] []) [cO (n*1) fun j=>AV.bool false] g (i6 (↑1:Int)) [u6] g/\WpC Tryd.prog R 48 0 49 [1,1,1,1,1,1,0,0] Q [Kont.blk 0,Kont.seq [1,1,1,1,1,1,1]] (St.mk [(7,sl 0 0 n n true 1),(8,i6 (↑1:Int))] [u6] g)))) (cO (n*1) fun a=>AV.bool (if a<1 then x else false))) ([(0,u1),(1,i6 u2),(10,AV.bool false)])) (bif false then true else decide (u2 > 9223372036854775807))) ([Row.mk (some 14) none (i6 (↑(List.length l):Int)) false (some []) [],Row.mk (some 13) none u1 false (some []) []])) ((↑n:Int))) (fz Fz.exa 1 (List.length l) fun i x=>AV.bool (List.getD l i false))) ⟨fun h=>(nomatch h),fun _=>⟨?_,?_,(fun _ _=>⟨rfl,(tq _ _ omg _ _)⟩),fun c1=>have c1:false=true∨(↑n:Int) > 9223372036854775807:=((eq c1).imp (fun h=>h) (fun h=>(of_decide_eq_true h)));?_,fun c1=>have c1:false=false/\¬(↑n:Int) > 9223372036854775807:=⟨(bY c1).1,(of_decide_eq_false (bY c1).2)⟩;⟨?_,omg,omg,omg,omg,?_,?_⟩⟩⟩
 ·exact fM (out:=⟨.int .u64 (IntKind.u64.wrap (l.length:Int)),[],[],.pure⟩) krf trivial (Bt (by rw[hll];kernel_rfl))
 ·exact fM (out:=⟨.int .u64 (IntKind.u64.wrap (n:Int)),[],[],.pure⟩) krf trivial (Bt (tr hn))
 ·rcases c1 with h|h
  ·cases h
  ·omega
 ·exact fM (out:=⟨.int .i64 (IntKind.i64.wrap (n:Int)),[],[],.pure⟩) krf trivial (Bt (tt hn))
 ·refine lh (t:=62) (es:=1) (N:=n*1) (n:=l.length) (len:=n) (ob:=0) (off:=0) (cap:=n) (ex:=true) (get0:=fun _=>.bool false) (get':=eD x 1) (new:=fun i _=>.bool (l.getD i false)) (ob1:=[]) 1 rfl rfl rfl rfl rfl rfl krf rfl trivial (by rw[hll];omega) dcd dcd omg (fun c hc=>?_)
  show AV.bool (if c<1 then x else false)=if 0<=c/\c<0+1*1 then AV.bool (l.getD ((c-0)/1) false) else AV.bool false
  by_cases h:c<1
  ·rw[if_pos h,if_pos omg,show(c-0)/1=0 by omega,hl]
   rfl
  ·rw[if_neg h,if_neg omg]
 ·refine(a9 krf (fun (m:Nat)=>⟨[(7,sl 0 0 n n true 1),(8,.int .i64 m)],[cO (n*1) (eD x m)],g⟩) (fun (m:Nat)=>(0<m/\m<=n)) (fun (m:Nat)=>(n-m)) 1 (aT ⟨Bs _,(Bt krf),trivial⟩ rfl rfl) ?_ (fun m hi=>?_))
  ·omega
  ·obtain⟨h1,h2⟩:=hi
   obtain⟨q,hq⟩:∃q,q=min m (n-m):=⟨_,rfl⟩
   refine vcR [] (lkL [(8,[7,8,37]),(9,[7,8])]) (lkL [(9,[(7,ROrc.own (i6 (↑q:Int)) [cO (n*1) (eD x (m+q))] g)])]) (fun Q=>(fun (u1:Int)=>(fun (u2:Int)=>(fun (u3:AObj)=>(fun (u4:AObj)=>(fun (u5:AV)=>(decide (u1<u2)=true->Flw Tryd.prog/\n<=n/\(0<=u1/\u1<=u2)/\m<n/\(0<=u1/\u1<=u2)/\0<n/\OpOk Tryd.prog R (Oper.mk (some 45) (Op.call (Call.mk (Callee.builtin Builtin.copy) #[Operand.tmp 41,Operand.tmp 44] #[62,62])) 3 "slices.go:528" #[Edge.mk 3 Ground.data,Edge.mk 6 Ground.data] none) (evO [Row.mk (some 44) none (sl 0 0 (m-0) (n-0) true 1) false (some []) [],Row.mk (some 43) none (i6 u1) false (some []) [],Row.mk (some 42) none u5 false (some []) [],Row.mk (some 41) none (sl 0 (0+m*1) (n-m) (n-m) true 1) false (some []) [],Row.mk (some 40) none (i6 u1) false (some []) [],Row.mk (some 39) none u5 false (some []) [],Row.mk (some 38) none (i6 u1) false (some []) []] [(7,u5),(8,i6 u1),(37,AV.bool (decide (u1<u2)))] []) [u4] g (i6 (↑q:Int)) [u3] g/\(-9223372036854775808<=u1+(↑q:Int)/\u1+(↑q:Int)<=9223372036854775807)/\Q AEx.normal (St.mk [(7,u5),(8,i6 (u1+(↑q:Int)))] [u3] g))/\(decide (u1<u2)=false->Q (AEx.exit 0) (St.mk [(7,u5),(8,i6 u1),(37,AV.bool (decide (u1<u2)))] [u4] g))) (sl 0 0 n n true 1)) (cO (n*1) fun a=>AV.bool (if a<m then x else false))) (cO (n*1) fun a=>AV.bool (if a<m+q then x else false))) ((↑n:Int))) ((↑m:Int))) ⟨fun c1=>have c1:(↑m:Int)<(↑n:Int):=(of_decide_eq_true c1);⟨krf,omg,omg,omg,omg,omg,?_,omg,?_⟩,fun c1=>have c1:¬(↑m:Int)<(↑n:Int):=(of_decide_eq_false c1);?_⟩
   ·refine lh (t:=62) (es:=1) (N:=n*1) (n:=m-0) (len:=n-m) (ob:=0) (off:=0+m*1) (cap:=n-m) (ex:=true) (get0:=eD x m) (get':=eD x (m+q)) (new:=fun i j=>eD x m (0+i*1+j)) (ob1:=[0+(m-0)*1<=n*1]) q rfl rfl rfl rfl rfl rfl krf rfl ⟨omg,trivial⟩ omg omg dcd omg (fun c hc=>?_)
    show AV.bool (if c<m+q then x else false)=if 0+m*1<=c/\c<0+m*1+q*1 then AV.bool (if 0+(c-(0+m*1))/1*1+(c-(0+m*1))%1<m then x else false) else AV.bool (if c<m then x else false)
    by_cases h:0+m*1<=c/\c<0+m*1+q*1
    ·rw[if_pos h,if_pos omg,if_pos omg]
    ·rw[if_neg h]
     congr 1
     by_cases h2:c<m
     ·rw[if_pos h2,if_pos omg]
     ·rw[if_neg h2,if_neg omg]
   ·refine(aO (m+q) (aT ⟨Bs _,(Bt krf),trivial⟩ rfl rfl) ?_ ?_)
    ·omega
    ·omega
   ·have:m=n:=by omega
    subst this
    refine⟨_,BE _,vcR [] (lkL [(10,[4])]) (fun _=>[]) (fun (Q:AEx->St R.σ->Prop)=>Q AEx.ret (St.mk [(4,sl 0 0 m m true 1)] [cO (m*1) fun (a:Nat)=>AV.bool (if a<m then x else false)] g)) (?_)⟩
    refine(aq (aP _ _ rfl trivial rfl rfl rfl) (Bs _))
theorem AX (R:Res)(x:Bool)(l:List Bool)(n:Nat)(h0:0<n)(hn:n<25)(hl:l=[x])(hp:List AObj)(g:R.σ):Does Tryd.prog R 49 [ko l,.int .i64 n] hp g (.ret (.sl hp.length 0 n n true 1)) (hp++[cO (n*1) (eD x n)]) g:=
 eI [] hp.length (fun R g=>AW R x l n h0 hn hl g) rfl rfl rfl trivial trivial ⟨Bs _,Bs _,trivial⟩ (Bs _) (lA _)
theorem AY (R:Res)(l:KL Int)(u:Value)(q:Int->Bool)(g:R.σ)(hl:l.l.length<1000000)
  (hu:∀r,r∈l.l->∀hp,VDoes Tryd.prog R u [.int .i64 r] hp g (.ret (.bool (q r))) hp g) :
  Does Tryd.prog R 108 [ah l,.val u] [] g (.ret (.int .i64 (aF q l.l 0))) [] g:=by
 refine spW (nt:=19) (rs:=[.tmp 4]) (k0:=0) ?_
 refine vcR [] (lkL [(0,[0,1]),(1,[0,1,7,8])]) (fun _=>[]) (fun (Q:AEx->St R.σ->Prop)=>WpC Tryd.prog R 19 0 108 [1,0,1,0] Q [Kont.blk 0,Kont.seq [1,1]] (St.mk [(0,ah l),(1,val u),(7,i6 (↑(List.length l.l):Int)),(8,i6 0)] [] g)) (?_)
 refine(a9 krf (fun (i:Nat)=>⟨[(0,ah l),(1,val u),(7,i6 (l.l.length:Int)),(8,.int .i64 (i:Int))],[],g⟩) (fun (i:Nat)=>(i<=l.l.length/\aF q l.l 0=aF q (l.l.drop i) i)) (fun (i:Nat)=>(l.l.length-i)) 0 (aT ⟨Bs _,Bs _,Bs _,(Bt krf),trivial⟩ rfl rfl) ?_ (fun i hi=>?_))
 ·exact⟨Nat.zero_le _,rfl⟩
 ·obtain⟨h1,h2⟩:=hi
  refine vcR [] (lkL [(2,[0,1,7,8,9]),(3,[0,1,5,7,8]),(4,[0,1,5,7,8,16]),(5,[4]),(6,[0,1,7,8])]) (lkL [(4,[(5,ROrc.kcall (AV.bool (q (List.getD l.l i 0))))])]) (fun Q=>(fun (u1:Int)=>(fun (u2:Int)=>(decide (u2<u1)=true->(0<=u2/\u2<u1)/\1<=1/\VDoes Tryd.prog R u [i6 (List.getD l.l i 0)] [] g (ret (AV.bool (q (List.getD l.l i 0)))) [] g/\(q (List.getD l.l i 0)=true->Q AEx.ret (St.mk [(4,i6 u2)] [] g))/\(q (List.getD l.l i 0)=false->(-9223372036854775808<=u2+1/\u2+1<=9223372036854775807)/\Q AEx.normal (St.mk [(0,ah l),(1,val u),(7,i6 u1),(8,i6 (u2+1))] [] g)))/\(decide (u2<u1)=false->Q (AEx.exit 0) (St.mk [(0,ah l),(1,val u),(7,i6 u1),(8,i6 u2),(9,AV.bool (decide (u2<u1)))] [] g))) ((↑i:Int))) ((↑(List.length l.l):Int))) ⟨fun c1=>have c1:(↑i:Int)<(↑(List.length l.l):Int):=(of_decide_eq_true c1);⟨omg,omg,(hu _ ?_ _),fun c2=>?_,fun c2=>⟨omg,?_⟩⟩,fun c1=>have c1:¬(↑i:Int)<(↑(List.length l.l):Int):=(of_decide_eq_false c1);?_⟩
  ·exact bO l.l 0 omg
  ·refine⟨_,BE _,(aq (aP _ _ rfl trivial rfl rfl rfl) (Bt ?_))⟩
   show(i6 (↑i:Int))=_
   show AV.int _ _=AV.int _ _
   rw[h2,fQ l.l 0 omg];unfold aF;rw[if_pos c2]
  ·refine(aO (i+1) (aT ⟨Bs _,Bs _,Bs _,(Bt krf),trivial⟩ rfl rfl) ?_ ?_)
   ·refine⟨omg,?_⟩
    rw[h2,fQ l.l 0 omg];conv=>lhs;unfold aF
    rw[c2];rfl
   ·omega
  ·refine⟨_,BE _,vcR [] (lkL [(7,[4])]) (fun _=>[]) (fun (Q:AEx->St R.σ->Prop)=>Q AEx.ret (St.mk [(4,i6 (-1))] [] g)) (?_)⟩
   refine(aq (aP _ _ rfl trivial rfl rfl rfl) (Bt ?_))
   show(i6 (-1))=_
   show AV.int _ _=AV.int _ _
   rw[h2,List.drop_eq_nil_of_le omg];rfl
theorem AZ (R:Res)(l:KL Int)(u:Value)(q:Int->Bool)(g:R.σ)(hl:l.l.length<1000000)
  (hu:∀r,r∈l.l->∀hp,VDoes Tryd.prog R u [.int .i64 r] hp g (.ret (.bool (q r))) hp g) :
  Does Tryd.prog R 86 [ah l,.val u] [] g (.ret (.bool (l.l.any q))) [] g:=by
 refine spW (nt:=9) (rs:=[.tmp 4]) (k0:=0) ?_
 refine vcR [] (lkL [(0,[0,1]),(1,[4])]) (lkL [(1,[(2,ROrc.kcall (i6 (aF q l.l 0)))])]) (fun Q=>(true=true/\Does Tryd.prog R 108 [ah l,val u] [] g (ret (i6 (aF q l.l 0))) [] g)/\Q AEx.ret (St.mk [(4,AV.bool (decide (aF q l.l 0 >= 0)))] [] g)) ⟨⟨rfl,(AY _ _ _ _ _ omg (fun _ _ _=>hu _ omg _))⟩,?_⟩
 refine(aq (aP _ _ rfl trivial rfl rfl rfl) (Bt ?_))
 show(AV.bool (decide (aF q l.l 0 >= 0)))=_
 show AV.bool _=AV.bool _
 rw[n9]
theorem A0 (R:Res)(l:KL Int)(f na nb:Nat)(a b:Nat->AV)(q:Int->Bool)(hp:List AObj)(g:R.σ)(hl:l.l.length<1000000)(hpl:cg Tryd.prog f=true)
  (h:∀r,r∈l.l->Does Tryd.prog R f (tab na 0 a++[.int .i64 r]++tab nb 0 b) hp g (.ret (.bool (q r))) hp g) :
  Does Tryd.prog R 86 [ah l,.fn f na a nb b] hp g (.ret (.bool (l.l.any q))) hp g:=
 kT (pre:=[ah l]) (D:=fun r=>r∈l.l) (args:=fun r=>[.int .i64 r]) (oc1:=fun r=>.ret (.bool (q r))) ⟨trivial,trivial⟩ hpl (fun r=>⟨trivial,trivial⟩) (fun _=>trivial) h
  (fun R' g' u hu=>AZ R' l u q g' hl hu)
def pd (x:Int):Bool:=bif decide (x<1) then true else decide (x > 3)
theorem A1 (R:Res)(x:Int)(hp:List AObj)(g:R.σ):Does Tryd.prog R 87 [.int .i64 x] hp g (.ret (.bool (pd x))) hp g:=by
 refine bx (fun R g=>?_) (by exact⟨trivial,trivial⟩) R hp g
 refine spW (nt:=9) (rs:=[.tmp 2]) (k0:=0) ?_
 refine vcR [] (lkL [(0,[0]),(1,[2])]) (fun _=>[]) (fun (Q:AEx->St R.σ->Prop)=>Q AEx.ret (St.mk [(2,AV.bool (bif decide (x<1) then true else decide (x > 3)))] [] g)) (?_)
 refine(aq (aP _ _ rfl trivial rfl rfl rfl) (Bt krf))
theorem A2 (R:Res)(p:Prg)(v:KL Int)(hl:(v.l.length:Int)=p.atoms/\p.atoms<1000000)(hv:∀x,x∈v.l->1<=x/\x<=3)(hp:List AObj)(g:R.σ):Does Tryd.prog R 36 [av p,ah v] hp g (.ret (.bool true)) hp g:=by
 refine bx (fun R g=>?_) (by exact⟨⟨⟨trivial,trivial⟩,trivial⟩,trivial,trivial⟩) R hp g
 have hany:v.l.any pd=false:=by
  rw[List.any_eq_false]
  intro x hx
  have:=hv x hx
  unfold pd
  rw[decide_eq_false omg,decide_eq_false omg]
  decide
 refine spW (nt:=15) (rs:=[.tmp 4]) (k0:=0) ?_
 refine vcR [] (lkL [(0,[1,2]),(1,[4])]) (lkL [(1,[(7,ROrc.kcall (AV.bool false))])]) (fun Q=>(fun (u1:AObj)=>1<=2/\(((v.l.length:Int)==p.atoms)=true->true=true/\Does Tryd.prog R 86 [ah v,fn 87 0 (fun (x:Nat)=>any) 0 fun x=>any] [u1] g (ret (AV.bool false)) [u1] g)/\Q AEx.ret (St.mk [(4,AV.bool (bif (v.l.length:Int)==p.atoms then true else false))] [u1] g)) (cO 2 (nth [i6 p.atoms,ad p.rules]))) ⟨omg,(fun hgd=>⟨rfl,(jM hany (A0 _ _ _ _ _ _ _ _ _ _ omg krf (fun r _=>(A1 _ _ _ _))))⟩),?_⟩
 refine(aq (bw _ _ rfl trivial trivial rfl) (Bt ?_))
 show(AV.bool (bif (↑(List.length v.l):Int)==p.atoms then true else false))=_
 rw[hl.1,beq_self_eq_true]
 rfl
def fu (v:Nat->Int)(l:List Stp):Nat->Int:=l.foldl bq v
def iY (p:Prg)(v:Nat->Int)(l:List Stp):Prop:=∀i,i<l.length->l.getD i default=aj p (fu v (l.take i))/\aU p (fu v (l.take i))=true
theorem tJ {p:Prg}:∀(k:Nat) (v:Nat->Int) (l:List Stp),∃ext,cH p k v l=(l++ext,fu v ext)/\iY p v ext
 |0,v,l=>⟨[],by rw[List.append_nil];rfl,fun i hi=>absurd hi (Nat.not_lt_zero i)⟩
 |k+1,v,l=>by
  by_cases hb:aU p v=true
  ·obtain⟨ext,h1,h2⟩:=tJ k (bq v (aj p v)) (l++[aj p v])
   refine⟨aj p v::ext,?_,fun i hi=>?_⟩
   ·show(if aU p v then cH p k (bq v (aj p v)) (l++[aj p v]) else(l,v))=_
    rw[if_pos hb,h1,List.append_assoc]
    rfl
   ·cases i with
    |zero=>exact⟨rfl,hb⟩
    |succ i=>exact h2 i (by simpa using hi)
  ·refine⟨[],?_,fun i hi=>absurd hi (Nat.not_lt_zero i)⟩
   show(if aU p v then cH p k (bq v (aj p v)) (l++[aj p v]) else(l,v))=_
   rw[if_neg hb,List.append_nil]
   rfl
theorem tK (p:Prg):(ak p).2=fu (fun _=>3) (ak p).1/\iY p (fun _=>3) (ak p).1:=by
 obtain⟨ext,h1,h2⟩:=tJ (p:=p) 25 (fun _=>3) []
 have h1:ak p=(ext,fu (fun _=>3) ext):=h1
 rw[h1]
 exact⟨rfl,h2⟩
def dj (s:Stp):Int:=if s.rule = -1 then 1 else 2
def cN (w:Nat->Int)(x:Int)(l:List Int):Nat->Int:=fun j=>if (j:Int)∈l then x else w j
structure StpFit (p:Prg)(w:Nat->Int)(s:Stp):Prop where
 can:okS p w (a8 s)=true
 new:newS p w (a8 s)=bq w s
 at_:∀a,a∈s.atoms->0<=a/\a<p.atoms/\w a.toNat=3
 inj:∀i j,i<j->j<s.atoms.length->s.atoms.getD i 0≠s.atoms.getD j 0
 upd:bq w s=cN w (dj s) s.atoms
theorem A3 {p:Prg}{w:Nat->Int}(hp:bZ p)(hr:∀r,r∈p.rules.l->aE r)(hh:cG p)(hb:aU p w=true):StpFit p w (aj p w):=by
 have hp':1<=p.atoms/\p.atoms<=24:=hp
 by_cases hf:0<=bf p w
 ·obtain⟨h1,h2,h3,_⟩:=oz hr hf
  have hn:(aj p w).rule ≠ -1:=by omega
  have e:aj p w=⟨bf p w,[(p.rules.l.getD (bf p w).toNat default).head]⟩:=if_pos hf
  have hq:=h1
  unfold dc at hq
  simp only[Bool.and_eq_true,beq_iff_eq,decide_eq_true_eq] at hq
  obtain⟨q1,q2,q3,q4,q5⟩:=hq
  have q1:0<=(aj p w).rule/\(aj p w).rule<=(p.rules.l.length:Int)-1:=q1
  have hm:=fl (l:=p.rules.l) (i:=(aj p w).rule.toNat) omg
  have hrk:=(hr _ hm).2
  have hhd:=hh _ hm
  have hat:(aj p w).atoms=[(p.rules.l.getD (aj p w).rule.toNat default).head]:=by rw[e]
  have q4:w (p.rules.l.getD (aj p w).rule.toNat default).head.toNat=3:=q4
  refine⟨?_,?_,fun a ha=>?_,fun i j hij hj=>?_,?_⟩
  ·unfold okS
   rw[if_neg (show ¬(a8 (aj p w)).rule = -1 from hn)]
   exact h1
  ·unfold newS
   rw[if_neg (show ¬(a8 (aj p w)).rule = -1 from hn),h2]
   rfl
  ·rw[hat,List.mem_singleton] at ha
   subst ha
   exact⟨hrk.1,hhd,q4⟩
  ·rw[hat,List.length_singleton] at hj
   omega
  ·rw[h2]
   funext j
   unfold cN dj
   rw[hat,if_neg hn]
   show(if j=(p.rules.l.getD (aj p w).rule.toNat default).head.toNat then 2 else w j)=_
   by_cases hj:(j:Int)=(p.rules.l.getD (aj p w).rule.toNat default).head
   ·rw[if_pos omg,if_pos (List.mem_singleton.2 hj)]
   ·rw[if_neg omg,if_neg (fun h=>hj (List.mem_singleton.1 h))]
 ·obtain⟨e,h1,h2,h3,h4⟩:=j5 hp hf hb
  obtain⟨_,g2,g3⟩:=gX w hp
  have hn:(aj p w).rule = -1:=by rw[e]
  have hat:(aj p w).atoms=bv (gre p w):=by rw[e]
  have hopen:∀a,(gre p w).testBit a=true->a<p.atoms.toNat/\w a=3:=fun a ha=>by
   have:=g2 a ha
   rw[iT,Bool.and_eq_true,decide_eq_true_eq,decide_eq_true_eq] at this
   exact this
  have hmem:∀a,a∈(aj p w).atoms->0<=a/\a<p.atoms/\w a.toNat=3:=fun a ha=>by
   rw[hat] at ha
   obtain⟨a1,a2,a3⟩:=lT.1 ha
   obtain⟨b1,b2⟩:=hopen _ a3
   exact⟨a1,omg,b2⟩
  refine⟨?_,?_,hmem,fun i j hij hj=>?_,?_⟩
  ·unfold okS
   rw[if_pos (show(a8 (aj p w)).rule = -1 from hn)]
   unfold dI
   rw[show dd p w (a8 (aj p w)).atoms.l=true from h1,show dH p w (aV (a8 (aj p w)).atoms.l)=true from h2]
   rfl
  ·unfold newS
   rw[if_pos (show(a8 (aj p w)).rule = -1 from hn),h3]
   rfl
  ·rw[hat] at hj ⊢
   rw[gr] at hj
   rw[gW,gW]
   have:=sg hij hj
   omega
  ·rw[h3]
   funext j
   unfold cN dj cc
   rw[if_pos hn]
   have hm:=AR (l:=(aj p w).atoms) (fun a ha=>(hmem a ha).1) j
   by_cases hj:(j:Int)∈(aj p w).atoms
   ·rw[if_pos (hm.2 hj),if_pos hj]
   ·rw[if_neg (fun h=>hj (hm.1 h)),if_neg hj]
theorem A4 {v:Nat->Int}{l:List Stp}{i:Nat}(h:i<l.length):fu v (l.take (i+1))=bq (fu v (l.take i)) (l.getD i default):=iV bq v l default h
theorem tL {p:Prg}{v:Nat->Int}{l:List Stp}(hp:bZ p)(hr:∀r,r∈p.rules.l->aE r)(hh:cG p)(hc:iY p v l){i:Nat}(hi:i<l.length):StpFit p (fu v (l.take i)) (l.getD i default):=by
 obtain⟨h1,h2⟩:=hc i hi
 rw[h1]
 exact A3 hp hr hh h2
theorem A5 {p:Prg}{v:Nat->Int}{s:Stp}{l:List Stp}(hc:iY p v (s::l)):iY p (bq v s) l:=fun i hi=>hc (i+1) (by simpa using hi)
theorem tP {p:Prg}(hp:bZ p)(hr:∀r,r∈p.rules.l->aE r)(hh:cG p):∀{l:List Stp} {v:Nat->Int} {i:Nat},iY p v l->eC p (l.map a8) v i = -1
 |[],_,_,_=>rfl
 |s::l,v,i,hc=>by
  have hf:=tL hp hr hh hc (i:=0) (Nat.succ_pos _)
  have hf:StpFit p v s:=hf
  show(if okS p v (a8 s) then eC p (l.map a8) (newS p v (a8 s)) (i+1) else i)=_
  rw[if_pos hf.can,hf.new]
  exact tP hp hr hh (A5 hc)
theorem A6 {p:Prg}(hp:bZ p)(hr:∀r,r∈p.rules.l->aE r)(hh:cG p):((ak p).1.length:Int)<=p.atoms:=by
 have h:=oB hp hr hh 25 (fun _=>3) []
 have h2:=j7 p (fun _=>3)
 have h3:1<=p.atoms:=hp.1
 have h4:(ak p).1.length<=cp p (fun _=>3):=by
  show(cH p 25 (fun _=>3) []).1.length<=_
  simp only[List.length_nil] at h
  omega
 omega
theorem A7 (R:Res)[Tab LT R](p:Prg)(hb:aD p=true)(g:R.σ):Does Tryd.prog R 23 [av p,aB (aA (ak p).1)] [] g (.ret (.tup 2 (nth [.int .i64 0,.int .i64 0]))) [] g:=by
 obtain⟨hl,hr,hp,hh,hx⟩:=ez hb
 have h:=AQ R p (aA (ak p).1) hb (by rw[ka];have:=lW hp hr hh;omega) (fun i=>Nat.lt_of_le_of_lt (tm hb i) dcd) g
 rw[show eC p (aA (ak p).1).l (fun _=>3) 0 = -1 from tP hp hr hh (tK p).2] at h
 exact h
def eE (v:List Int)(l:Lit):Bool:=bif (bif v.getD l.atom.toNat 0==2 then !l.neg else false) then true else(bif v.getD l.atom.toNat 0==1 then l.neg else false)
def dL (v:List Int)(l:Lit):Bool:=bif (bif v.getD l.atom.toNat 0==1 then !l.neg else false) then true else(bif v.getD l.atom.toNat 0==2 then l.neg else false)
theorem A8 (R:Res)(v:KL Int)(l:Lit)(h:0<=l.atom/\l.atom<v.l.length)(hp:List AObj)(g:R.σ):Does Tryd.prog R 52 [ah v,bz l] hp g (.ret (.bool (eE v.l l))) hp g:=by
 refine bx (fun R g=>?_) (by exact⟨trivial,⟨⟨trivial,trivial⟩,trivial⟩,trivial⟩) R hp g
 refine spW (nt:=28) (rs:=[.tmp 4]) (k0:=0) ?_
 refine vcR [] (lkL [(0,[0,3]),(1,[4])]) (fun _=>[]) (fun Q=>(fun (u1:Bool)=>(fun (u2:Int)=>1<=2/\(0<=l.atom/\l.atom<(↑(List.length v.l):Int))/\1<=1/\((u2==2)=true->2<=2)/\((!u1)=true->1<=2)/\((!u1)=true->0<=l.atom/\l.atom<(↑(List.length v.l):Int))/\((!u1)=true->1<=1)/\((!u1&&u2==1)=true->2<=2)/\Q AEx.ret (St.mk [(4,AV.bool (bif u1 then true else bif u2==1 then l.neg else false))] [cO 2 (nth [i6 l.atom,AV.bool l.neg])] g)) (List.getD v.l (Int.toNat l.atom) 0)) (bif List.getD v.l (Int.toNat l.atom) 0==2 then !l.neg else false)) ⟨omg,omg,omg,omg,omg,omg,omg,omg,?_⟩
 refine(aq (bw _ _ rfl trivial trivial rfl) (Bt krf))
theorem A9 (R:Res)(v:KL Int)(l:Lit)(h:0<=l.atom/\l.atom<v.l.length)(hp:List AObj)(g:R.σ):Does Tryd.prog R 54 [ah v,bz l] hp g (.ret (.bool (dL v.l l))) hp g:=by
 refine bx (fun R g=>?_) (by exact⟨trivial,⟨⟨trivial,trivial⟩,trivial⟩,trivial⟩) R hp g
 refine spW (nt:=28) (rs:=[.tmp 4]) (k0:=0) ?_
 refine vcR [] (lkL [(0,[0,3]),(1,[4])]) (fun _=>[]) (fun Q=>(fun (u1:Bool)=>(fun (u2:Int)=>1<=2/\(0<=l.atom/\l.atom<(↑(List.length v.l):Int))/\1<=1/\((u2==1)=true->2<=2)/\((!u1)=true->1<=2)/\((!u1)=true->0<=l.atom/\l.atom<(↑(List.length v.l):Int))/\((!u1)=true->1<=1)/\((!u1&&u2==2)=true->2<=2)/\Q AEx.ret (St.mk [(4,AV.bool (bif u1 then true else bif u2==2 then l.neg else false))] [cO 2 (nth [i6 l.atom,AV.bool l.neg])] g)) (List.getD v.l (Int.toNat l.atom) 0)) (bif List.getD v.l (Int.toNat l.atom) 0==1 then !l.neg else false)) ⟨omg,omg,omg,omg,omg,omg,omg,omg,?_⟩
 refine(aq (bw _ _ rfl trivial trivial rfl) (Bt krf))
theorem Ba (R:Res)(v:KL Int)(l:Lit)(h:0<=l.atom/\l.atom<v.l.length)(g:R.σ):Does Tryd.prog R 51 [bz l,.ref 0 0] [cO 1 (fun _=>ah v)] g (.ret (.bool (!eE v.l l))) [cO 1 (fun _=>ah v)] g:=by
 refine spW (nt:=8) (rs:=[.tmp 3]) (k0:=1) ?_
 refine vcR [] (lkL [(0,[1,2]),(1,[3])]) (lkL [(1,[(2,ROrc.pcall (AV.bool (eE v.l l)))])]) (fun Q=>(fun (u1:AV)=>1<=1/\2<=2/\(∀(hp:List AObj) (g:R.σ),true=true/\Does Tryd.prog R 52 [u1,bz l] hp g (ret (AV.bool (eE v.l l))) hp g)/\Q AEx.ret (St.mk [(3,AV.bool !eE v.l l)] [cO 1 fun x=>u1,cO 2 (nth [i6 l.atom,AV.bool l.neg])] g)) (fz v.2 1 (List.length v.l) fun i x=>af v.l i)) ⟨omg,omg,(fun _ _=>⟨rfl,(A8 _ _ _ omg _ _)⟩),?_⟩
 refine(aq (bS 1 _ _ rfl trivial omg trivial ⟨(fun j hj=>match j,hj with|0,_=>trivial ),trivial⟩ krf rfl rfl) (Bs _))
theorem tQ (R:Res)(v:KL Int)(l:Lit)(h:0<=l.atom/\l.atom<v.l.length)(g:R.σ):Does Tryd.prog R 53 [bz l,.ref 0 0] [cO 1 (fun _=>ah v)] g (.ret (.bool (dL v.l l))) [cO 1 (fun _=>ah v)] g:=by
 refine spW (nt:=7) (rs:=[.tmp 3]) (k0:=1) ?_
 refine vcR [] (lkL [(0,[1,2]),(1,[3])]) (lkL [(1,[(2,ROrc.pcall (AV.bool (dL v.l l)))])]) (fun Q=>(fun (u1:AV)=>1<=1/\2<=2/\(∀(hp:List AObj) (g:R.σ),true=true/\Does Tryd.prog R 54 [u1,bz l] hp g (ret (AV.bool (dL v.l l))) hp g)/\Q AEx.ret (St.mk [(3,AV.bool (dL v.l l))] [cO 1 fun x=>u1,cO 2 (nth [i6 l.atom,AV.bool l.neg])] g)) (fz v.2 1 (List.length v.l) fun i x=>af v.l i)) ⟨omg,omg,(fun _ _=>⟨rfl,(A9 _ _ _ omg _ _)⟩),?_⟩
 refine(aq (bS 1 _ _ rfl trivial omg trivial ⟨(fun j hj=>match j,hj with|0,_=>trivial ),trivial⟩ krf rfl rfl) (Bs _))
def fW (V:List Int)(r:Rule):Bool:= !r.body.l.any (fun l=> !eE V l)
def fX (V:List Int)(r:Rule):Bool:= !r.body.l.any (dL V)
def cz (V:List Int)(l:List Rule)(j:Nat):Bool:=l.any fun r=>decide (r.head.toNat=j)&&fW V r
def cA (V:List Int)(l:List Rule)(j:Nat):Bool:= !l.any fun r=>decide (r.head.toNat=j)&&fX V r
theorem mj {q:Rule->Bool}{l:List Rule}{i:Nat}(h:i<l.length):(l.take (i+1)).any q=((l.take i).any q||q (l.getD i default)):=by
 rw[List.take_add_one,List.any_append,List.getElem?_eq_getElem h,List.getD_eq_getElem?_getD,List.getElem?_eq_getElem h]
 show(_||(q l[i]||false))=_
 rw[Bool.or_false]
 rfl
def dk (b:Nat->Bool):Nat->AV:=fun j=>.bool (b j)
theorem Bb {k:Nat}(b:Nat->Bool)(j:Nat):Below k (dk b j):=trivial
def eS (w:Nat->Int):Nat->AV:=fun j=>.int .i64 (w j)
theorem Bc {k:Nat}(b:Nat->Int)(j:Nat):Below k (eS b j):=trivial
theorem ml {b b':Nat->Bool}{a:Nat}{x:Bool}(hb:∀j,b' j=if j=a then x else b j){c:Nat}:al (dk b) a 1 (fun _=>.bool x) c=dk b' c:=by
 rw[dt]
 unfold dk
 rw[hb]
 by_cases h:c=a
 ·rw[if_pos omg,if_pos h]
 ·rw[if_neg omg,if_neg h]
theorem Bd {b b':Nat->Int}{a:Nat}{x:Int}(hb:∀j,b' j=if j=a then x else b j){c:Nat}:al (eS b) a 1 (fun _=>.int .i64 x) c=eS b' c:=by
 rw[dt]
 unfold eS
 rw[hb]
 by_cases h:c=a
 ·rw[if_pos omg,if_pos h]
 ·rw[if_neg omg,if_neg h]
theorem Be {w:Nat->Int}{x:Int}{l:List Int}{i:Nat}(h:i<l.length)(h0:0<=l.getD i 0)(j:Nat):cN w x (l.take (i+1)) j=if j=(l.getD i 0).toNat then x else cN w x (l.take i) j:=by
 unfold cN
 rw[List.take_add_one,List.getElem?_eq_getElem h]
 have e:l.getD i 0=l[i]:=by rw[List.getD_eq_getElem?_getD,List.getElem?_eq_getElem h];rfl
 rw[e] at h0 ⊢
 by_cases hj:(j:Int)=l[i]
 ·rw[if_pos (List.mem_append.2 (.inr (by rw[hj];simp))),if_pos omg]
 ·rw[if_neg (show ¬j=l[i].toNat by omega)]
  by_cases hm:(j:Int)∈l.take i
  ·rw[if_pos (List.mem_append.2 (.inl hm)),if_pos hm]
  ·rw[if_neg (fun h=>(List.mem_append.1 h).elim hm (fun h=>hj (by simpa using h))),if_neg hm]
theorem Bf {w:Nat->Int}{x:Int}{l:List Int}{i:Nat}(hinj:∀i j,i<j->j<l.length->l.getD i 0≠l.getD j 0)(h:i<l.length)(h0:0<=l.getD i 0):cN w x (l.take i) (l.getD i 0).toNat=w (l.getD i 0).toNat:=by
 unfold cN
 rw[if_neg]
 intro hm
 obtain⟨k,hk,he⟩:=List.getElem_of_mem hm
 rw[List.length_take] at hk
 have hk':k<l.length:=by omega
 rw[List.getElem_take] at he
 have e:l.getD k 0=l[k]:=by rw[List.getD_eq_getElem?_getD,List.getElem?_eq_getElem hk'];rfl
 refine hinj k i omg h ?_
 rw[e,he]
 omega
theorem Bg {b b':Nat->Int}{a:Nat}{x y:Int}(hb:∀j,b' j=if j=a then x else b j){c:Nat}:al (al (eS b) a 1 (fun _=>.int .i64 y)) a 1 (fun _=>.int .i64 x) c=eS b' c:=by
 rw[dt,dt]
 unfold eS
 rw[hb]
 by_cases h:c=a
 ·rw[if_pos omg,if_pos h]
 ·rw[if_neg omg,if_neg omg,if_neg h]
theorem Bh {hp:List AObj}{k m o n:Nat}{l:List Int}{w:Nat->Int}(hn:l.length=n)(hw:∀j,j<n->l.getD j 0=w j)(ho:ag hp o=cO (n*1) (eS w))(hk:k<=o):ay hp k m (.ow true o n 1) (ah ⟨l,.auto⟩):=by
 subst hn
 exact(ay.ow ho hk (Nat.le_refl _) dcd (fun j _=>Bz (Bc _ _))).le (By rfl (fun i j hi hj=>by
  show AV.int .i64 (w (i*1+j))=AV.int .i64 (l.getD i 0)
  rw[show i*1+j=i by omega,hw i hi]))
theorem tR {hp:List AObj}{k m o n:Nat}{l:List Bool}{w:Nat->Bool}(hn:l.length=n)(hw:∀j,j<n->l.getD j false=w j)(ho:ag hp o=cO (n*1) (dk w))(hk:k<=o):ay hp k m (.ow true o n 1) (eB l):=by
 subst hn
 exact(ay.ow ho hk (Nat.le_refl _) dcd (fun j _=>Bz (Bb _ _))).le (By rfl (fun i j hi hj=>by
  show AV.bool (w (i*1+j))=AV.bool (l.getD i false)
  rw[show i*1+j=i by omega,hw i hi]))
theorem tU (R:Res)(a b:List Bool)(n:Nat)(ha:a.length=n)(hb:b.length=n)(hn:n<1000000)(g:R.σ):Does Tryd.prog R 37 [.ow true 0 n 1,eB b] [cO (n*1) (aI a)] g (.ret (.bool (!fq a b n))) [cO (n*1) (aI a)] g:=by
 refine spW (nt:=33) (rs:=[.tmp 4]) (k0:=1) ?_
 refine vcR [] (lkL [(0,[0,1]),(1,[0,1,5])]) (fun _=>[]) (fun (Q:AEx->St R.σ->Prop)=>WpC Tryd.prog R 33 1 37 [1,0,1,0] Q [Kont.blk 0,Kont.seq [1,1]] (St.mk [(0,ow true 0 n 1),(1,fz Fz.auto 1 (List.length b) fun (i x:Nat)=>aI b i),(5,i6 0)] [cO (n*1) fun (a_1:Nat)=>aI a a_1] g)) (?_)
 refine(a9 krf (fun (i:Nat)=>⟨[(0,ow true 0 n 1),(1,fz Fz.auto 1 (b.length) fun (i x:Nat)=>aI b i),(5,.int .i64 i)],[cO (n*1) fun (a_1:Nat)=>aI a a_1],g⟩) (fun (i:Nat)=>(i<=n/\fq a b i=false)) (fun (i:Nat)=>(n-i)) 0 (aT ⟨Bs _,Bs _,(Bt krf),trivial⟩ rfl rfl) ?_ (fun i hi=>?_))
 ·exact⟨Nat.zero_le _,rfl⟩
 ·obtain⟨h2,h3⟩:=hi
  rcases Nat.lt_or_ge i n with hlt|hge
  ·refine vcR [] (lkL [(2,[0,1,5,16]),(4,[0,1,5,27]),(5,[4]),(3,[0,1,5])]) (fun _=>[]) (fun Q=>(fun (u1:Bool)=>(fun (u2:AObj)=>(fun (u3:Int)=>(fun (u4:AV)=>(u1=true->Flw Tryd.prog/\(0<=u3/\u3<(↑n:Int))/\i+1<=n*1/\(0<=u3/\u3<(↑(List.length b):Int))/\1<=1/\((!List.getD a i false==List.getD b i false)=true->Q AEx.ret (St.mk [(4,AV.bool false)] [u2] g))/\((!List.getD a i false==List.getD b i false)=false->(-9223372036854775808<=u3+1/\u3+1<=9223372036854775807)/\Q AEx.normal (St.mk [(0,ow true 0 n 1),(1,u4),(5,i6 (u3+1))] [u2] g)))/\(u1=false->Q (AEx.exit 0) (St.mk [(0,ow true 0 n 1),(1,u4),(5,i6 u3),(16,AV.bool u1)] [u2] g))) (fz Fz.auto 1 (List.length b) fun i x=>aI b i)) ((↑i:Int))) (cO (n*1) fun a_1=>aI a a_1)) (bif decide ((↑i:Int)<(↑n:Int)) then(↑n:Int)==(↑(List.length b):Int) else false)) ⟨fun c1=>have c1:(↑i:Int)<(↑n:Int)/\(↑n:Int)=(↑(List.length b):Int):=⟨(of_decide_eq_true (ep c1).1),(beq_iff_eq.mp (ep c1).2)⟩;⟨krf,omg,omg,omg,omg,fun c2=>have c2:(List.getD a i false==List.getD b i false)=false:=((Bool.not_eq_true' _).mp c2);?_,fun c2=>have c2:(List.getD a i false==List.getD b i false)=true:=((Bool.not_eq_false' _).mp c2);⟨omg,?_⟩⟩,fun c1=>have c1:¬(↑i:Int)<(↑n:Int)∨¬(↑n:Int)=(↑(List.length b):Int):=((iE c1).imp (fun h=>(of_decide_eq_false h)) (fun h=>(beq_eq_false_iff_ne.mp h)));?_⟩
   ·rw[zT hlt (by unfold bne;rw[c2];rfl)]
    refine⟨_,BE _,(aq (aP _ _ rfl trivial rfl rfl rfl) (Bt krf))⟩
   ·refine(aO (i+1) (aT ⟨Bs _,Bs _,(Bt krf),trivial⟩ rfl rfl) ?_ ?_)
    ·exact⟨omg,by rw[zS,h3];unfold bne;rw[c2];rfl⟩
    ·omega
   ·exfalso;omega
  ·have hie:i=n:=by omega
   subst hie
   rw[h3]
   refine vcR [] (lkL [(2,[0,1,5,16]),(4,[0,1,5,27]),(5,[4]),(3,[0,1,5])]) (fun _=>[]) (fun Q=>(fun (u1:Int)=>(fun (u2:Bool)=>(fun (u3:AObj)=>(fun (u4:AV)=>(u2=true->Flw Tryd.prog/\(0<=u1/\u1<u1)/\i+1<=i*1/\(0<=u1/\u1<(↑(List.length b):Int))/\1<=1/\((!List.getD a i false==List.getD b i false)=true->Q AEx.ret (St.mk [(4,AV.bool false)] [u3] g))/\((!List.getD a i false==List.getD b i false)=false->(-9223372036854775808<=u1+1/\u1+1<=9223372036854775807)/\Q AEx.normal (St.mk [(0,ow true 0 i 1),(1,u4),(5,i6 (u1+1))] [u3] g)))/\(u2=false->Q (AEx.exit 0) (St.mk [(0,ow true 0 i 1),(1,u4),(5,i6 u1),(16,AV.bool u2)] [u3] g))) (fz Fz.auto 1 (List.length b) fun i x=>aI b i)) (cO (i*1) fun a_1=>aI a a_1)) (bif decide (u1<u1) then u1==(↑(List.length b):Int) else false)) ((↑i:Int))) ⟨fun c1=>have c1:(↑i:Int)<(↑i:Int)/\(↑i:Int)=(↑(List.length b):Int):=⟨(of_decide_eq_true (ep c1).1),(beq_iff_eq.mp (ep c1).2)⟩;⟨krf,omg,omg,omg,omg,fun c2=>have c2:(List.getD a i false==List.getD b i false)=false:=((Bool.not_eq_true' _).mp c2);?_,fun c2=>have c2:(List.getD a i false==List.getD b i false)=true:=((Bool.not_eq_false' _).mp c2);⟨omg,?_⟩⟩,fun c1=>have c1:¬(↑i:Int)<(↑i:Int)∨¬(↑i:Int)=(↑(List.length b):Int):=((iE c1).imp (fun h=>(of_decide_eq_false h)) (fun h=>(beq_eq_false_iff_ne.mp h)));?_⟩
   all_goals first|(exfalso;omega)|skip
   refine⟨_,BE _,vcR [] (lkL [(6,[4])]) (fun _=>[]) (fun (Q:AEx->St R.σ->Prop)=>Q AEx.ret (St.mk [(4,AV.bool ((↑i:Int)==(↑(List.length b):Int)))] [cO (i*1) fun (a_1:Nat)=>aI a a_1] g)) (?_)⟩
   rw[show((i:Int)==(b.length:Int))=true from by rw[hb];exact beq_self_eq_true _]
   refine(aq (aP _ _ rfl trivial rfl rfl rfl) (Bt krf))
theorem mm {V:List Int}{v:Nat->Int}{n:Nat}(hV:∀j,j<n->V.getD j 0=v j)(hd:∀a,v a=1∨v a=2∨v a=3){l:Lit}(hl:l.atom.toNat<n):eE V l=(bh v l==2)/\dL V l=(bh v l==1):=by
 unfold eE dL bh
 rw[hV _ hl]
 rcases hd l.atom.toNat with e|e|e <;> rw[e] <;> cases l.neg <;> exact⟨rfl,rfl⟩
theorem mn {V:List Int}{v:Nat->Int}{n:Nat}(hV:∀j,j<n->V.getD j 0=v j)(hd:∀a,v a=1∨v a=2∨v a=3){r:Rule}(hr:∀l,l∈r.body.l->l.atom.toNat<n):fW V r=co v r/\(fX V r=true↔∀l,l∈r.body.l->bh v l≠1):=by
 constructor
 ·unfold fW co
  congr 1
  rw[Bool.eq_iff_iff,List.any_eq_true,List.any_eq_true]
  constructor
  ·rintro ⟨l,hl,h⟩
   refine⟨l,hl,?_⟩
   rw[(mm hV hd (hr l hl)).1] at h
   exact h
  ·rintro ⟨l,hl,h⟩
   refine⟨l,hl,?_⟩
   rw[(mm hV hd (hr l hl)).1]
   exact h
 ·unfold fX
  rw[Bool.not_eq_true',List.any_eq_false]
  constructor
  ·intro h l hl e
   have:=h l hl
   rw[(mm hV hd (hr l hl)).2,e] at this
   exact this rfl
  ·intro h l hl
   rw[(mm hV hd (hr l hl)).2]
   simpa using h l hl
theorem tW {P:Program}{R:Res}{f n:Nat}{rd:Rd}{body:Code}{p1 p2:List Nat}{Q1 Q2:AEx->St R.σ->Prop}{s:St R.σ}(hk:Wp P R f n rd body p1 Q1 s)(h1:p1=p2)(h2:Q1=Q2):Wp P R f n rd body p2 Q2 s:=by
 subst h1 h2
 exact hk
theorem Bi {A C:Prop}(h:C->A)(hc:C):A:=h hc
theorem tX {P:Program}{R:Res}{f n:Nat}{rd:Rd}{body:Code}{p:List Nat}{Q:AEx->St R.σ->Prop}{s:St R.σ}(h:Wp P R f n rd body p Q s):aS P R f n rd body Q [Kont.seq p] .normal s:=h
theorem Bj (R:Res)[Tab LT R](p:Prg)(g:R.σ):Does Tryd.prog R 12 [av p] [] g (.ret (.bool true)) [] g:=by
 have hroom:aC=140737488355328:=rfl
 by_cases hfi:et p=true/\aD p=true
 rotate_left
 ·have hF:∀(R:Res) (hp:List AObj) (g:R.σ),Does Tryd.prog R 35 [av p] hp g (.ret (.bool false)) hp g:=fun R hp g=>by
   have h:=rJ R p hp g
   rw[show(et p&&aD p)=false by
    cases h1:et p <;> cases h2:aD p <;> first|rfl|exact absurd ⟨h1,h2⟩ hfi] at h
   exact h
  refine spW (nt:=189) (rs:=[.tmp 2]) (k0:=0) ?_
  refine vcR [[1,0,1,1]] (lkL [(0,[1]),(1,[1,23]),(2,[2])]) (lkL [(1,[(1,ROrc.pcall (AV.bool false))]),(2,[(0,ROrc.kcall (AV.bool true))])]) (fun Q=>(fun (u1:List AObj)=>2<=2/\(∀(hp:List AObj) (g:R.σ),true=true/\Does Tryd.prog R 35 [av p] hp g (ret (AV.bool false)) hp g)/\(true=true->(true=true/\Does Tryd.prog R 15 [] u1 g (ret (AV.bool true)) u1 g)/\Q AEx.ret (St.mk [(2,AV.bool true)] u1 g))/\(true=false->WpC Tryd.prog R 189 0 12 [1,0,1,1] Q [Kont.seq [1,1]] (St.mk [(1,ref 0 0),(23,AV.bool true)] u1 g))) ([cO 2 (nth [i6 p.atoms,ad p.rules])])) ⟨omg,(fun _ _=>⟨rfl,(hF _ _ _)⟩),fun _=>⟨⟨rfl,(doT (T:=LT) [] 1 (fun R _ g=>tj R g))⟩,?_⟩,fun h=>(nomatch h)⟩
  refine(aq (bw _ _ rfl trivial trivial rfl) (Bs _))
 obtain⟨hsm,hb⟩:=hfi
 obtain⟨hl,hr,hp,hh,hx⟩:=ez hb
 have hp':1<=p.atoms/\p.atoms<=24:=hp
 have hrn:=Ah hb
 obtain⟨n,hn⟩:∃n,p.atoms.toNat=n:=⟨_,rfl⟩
 have hpa:p.atoms=n:=by omega
 rw[hn] at hrn
 have hfin:=AD hp hr hh
 obtain⟨hrv,hch⟩:=tK p
 have hlen:=A6 hp hr hh
 have hF:∀(R:Res) (hp:List AObj) (g:R.σ),Does Tryd.prog R 35 [av p] hp g (.ret (.bool true)) hp g:=fun R hp g=>by
  have h:=rJ R p hp g
  rw[hsm,hb] at h
  exact h
 have hD:=fun (R:Res) [Tab LT R] (g:R.σ)=>sz R p hb g
 have hW:=fun (R:Res) [Tab LT R] (g:R.σ)=>A7 R p hb g
 have hfit:=fun i (hi:i<(ak p).1.length)=>tL hp hr hh hch hi
 have hVl:(dh p (ak p).2).l.length=n:=by unfold dh;simp[hn]
 have hVg:∀j,j<n->(dh p (ak p).2).l.getD j 0=(ak p).2 j:=fun j hj=>by
  unfold dh
  rw[List.getD_eq_getElem?_getD,List.getElem?_map,List.getElem?_range omg]
  rfl
 have hat24:=fun i=>tm hb i
 obtain⟨V,hV⟩:∃V,dh p (ak p).2=V:=⟨_,rfl⟩
 obtain⟨v,hv⟩:∃v,(ak p).2=v:=⟨_,rfl⟩
 obtain⟨l,hll⟩:∃l,(ak p).1=l:=⟨_,rfl⟩
 simp only[hV,hll] at hD
 rw[hV] at hVl
 simp only[hV] at hVg
 simp only[hv] at hVg
 simp only[hll] at hlen hch hfit hW hat24
 rw[hll,hv] at hrv
 rw[hv] at hfin
 have hFo:∀(R:Res) (hp:List AObj) (g:R.σ),Does Tryd.prog R 36 [av p,ah V] hp g (.ret (.bool true)) hp g:=fun R hp g=>A2 R p V omg (fun x hx=>by
  obtain⟨j,hj,rfl⟩:=List.getElem_of_mem hx
  have e:V.l[j]=V.l.getD j 0:=by rw[List.getD_eq_getElem?_getD,List.getElem?_eq_getElem hj];rfl
  rw[e,hVg j omg]
  rcases hfin.dom j with e|e|e <;> omega) hp g
 have hsl:(aA l).l.length=l.length:=ka l
 obtain⟨m3,hm3⟩:∃m:KL Int,m=⟨[3],.exa⟩:=⟨_,rfl⟩
 have hR:∀(R:Res) (hp:List AObj) (g:R.σ),Does Tryd.prog R 46 [ah m3,.int .i64 p.atoms] hp g (.ret (.sl hp.length 0 n n true 1)) (hp++[cO (n*1) (eR 3 n)]) g:=fun R hp g=>by rw[hpa];exact AU R 3 m3 n omg omg hm3 hp g
 have hgt:(bif false then true else decide (((aA l).l.length:Int) > p.atoms))=false:=decide_eq_false (by rw[hsl];omega)
 refine spW (nt:=189) (rs:=[.tmp 2]) (k0:=0) ?_
 refine vcR [[1,0,1,0],[1,1,1,1,0,1,0]] (lkL [(0,[1]),(1,[1,23]),(3,[1,3,4,5]),(4,[1,3,4,5,6,7]),(5,[1,3,4,59]),(7,[1,3,4,8]),(8,[1,4,8,64,65,66])]) (lkL [(1,[(1,ROrc.pcall (AV.bool true))]),(3,[(1,ROrc.kcall (tup 3 (nth [fz Fz.auto 2 (List.length (aA l).l) fun (i:Nat)=>cS (List.getD (aA l).l i default),fz V.2 1 (List.length V.l) fun (i x:Nat)=>af V.l i,i6 0]))),(8,ROrc.val (Orc.obj (nth [fz V.2 1 (List.length V.l) fun (i x:Nat)=>af V.l i])))]),(4,[(2,ROrc.kcall (tup 2 (nth [i6 0,i6 0])))]),(5,[(13,ROrc.pcall (AV.bool true))]),(7,[(0,ROrc.kop (ah m3)),(3,ROrc.call (sl (List.length [cO 2 (nth [i6 p.atoms,ad p.rules]),cO 1 (nth [fz V.2 1 (List.length V.l) fun (i x:Nat)=>af V.l i])]) 0 n n true 1) ([cO 2 (nth [i6 p.atoms,ad p.rules]),cO 1 (nth [fz V.2 1 (List.length V.l) fun (i x:Nat)=>af V.l i])]++[cO (n*1) (eR 3 n)]) g)])]) (fun Q=>(fun (u1:List AObj)=>(fun (u2:AV)=>(fun (u3:Int)=>(fun (u4:AV)=>(fun (u5:AObj)=>(fun (u6:Bool)=>(fun (u7:List AObj)=>(fun (u8:AV)=>2<=2/\(∀(hp:List AObj) (g:R.σ),true=true/\Does Tryd.prog R 35 [av p] hp g (ret (AV.bool true)) hp g)/\(false=true->WpC Tryd.prog R 189 0 12 [1,0,1,0] Q [Kont.seq [1,1]] (St.mk [(1,ref 0 0),(23,AV.bool false)] [u5] g))/\(false=false->2<=2/\(true=true/\Does Tryd.prog R 17 [av p] [u5] g (ret (tup 3 (nth [u2,u4,i6 0]))) [u5] g)/\1<=1/\(∀(c:Nat),c<1->nth [u4] c=al (fun (a:Nat)=>fz Fz.nil 0 0 fun x x_1=>any) 0 1 (fun (x:Nat)=>u4) c)/\2<=2/\(true=true/\Does Tryd.prog R 23 [av p,u2] u1 g (ret (tup 2 (nth [i6 0,i6 0]))) u1 g)/\(true=true->2<=2)/\(true=true->1<=1)/\(true=true->∀(hp:List AObj) (g:R.σ),true=true/\Does Tryd.prog R 36 [av p,u4] hp g (ret (AV.bool true)) hp g)/\(true=true->1<=2)/\(u6=true->WpC Tryd.prog R 189 0 12 [1,1,1,1,0,1,0] Q [Kont.seq [1,1,1,1,1]] (St.mk [(1,ref 0 0),(3,u2),(4,ref 1 0),(59,AV.bool u6)] u1 g))/\(u6=false->OpOk Tryd.prog R (Oper.mk (some 60) (Op.buildSlice 30 1 #[(0,Operand.const (Value.int i64 3))]) 30 "outright.go:40" #[] none) (evO [] [(1,ref 0 0),(3,u2),(4,ref 1 0),(59,AV.bool u6)] []) u1 g u8 u1 g/\1<=2/\(true=true/\Does Tryd.prog R 46 [u8,i6 p.atoms] u1 g (ret (sl 2 0 n n true 1)) u7 g)/\WpC Tryd.prog R 189 0 12 [1,1,1,1,1,1,0,1,0] Q [Kont.blk 0,Kont.seq [1,1,1,1,1,1,1]] (St.mk [(1,ref 0 0),(4,ref 1 0),(8,sl 2 0 n n true 1),(64,u2),(65,i6 u3),(66,i6 0)] u7 g)))) (fz m3.2 1 (List.length m3.l) fun i x=>af m3.l i)) ([u5,cO 1 (nth [u4]),cO (n*1) fun a=>i6 (if a<n then 3 else 0)])) (bif false then true else decide (u3 > p.atoms))) (cO 2 (nth [i6 p.atoms,ad p.rules]))) (fz V.2 1 (List.length V.l) fun i x=>af V.l i)) ((↑(List.length (aA l).l):Int))) (fz Fz.auto 2 (List.length (aA l).l) fun i=>cS (List.getD (aA l).l i default))) ([cO 2 (nth [i6 p.atoms,ad p.rules]),cO 1 (nth [fz V.2 1 (List.length V.l) fun i x=>af V.l i])])) ⟨omg,(fun _ _=>⟨rfl,(hF _ _ _)⟩),fun h=>(nomatch h),fun _=>⟨omg,⟨rfl,(doT (T:=LT) [] 1 (fun R _ g=>hD R g))⟩,omg,(fun c hc=>match c,hc with|0,_=>krf ),omg,⟨rfl,(doT (T:=LT) [] 2 (fun R _ g=>hW R g))⟩,omg,omg,(fun hgd=>(fun _ _=>⟨rfl,(hFo _ _ _)⟩)),omg,fun hcc=>(nomatch (hgt.symm.trans hcc)),fun _=>⟨?_,omg,⟨rfl,(hR _ _ _)⟩,?_⟩⟩⟩
 ·subst hm3;exact bT (n:=1) (es:=1) krf (by exact⟨trivial,trivial⟩) rfl rfl (fun i hi j hj=>match i,hi,j,hj with|0,_,0,_=>krf ) (fun i hi j hj=>match i,hi,j,hj with|0,_,0,_=>trivial )
 refine b9 (toL (s':=⟨[(1,.ref 0 0),(4,.ref 1 0),(8,.ow true 2 n 1),(64,aB (aA l)),(65,.int .i64 (aA l).l.length),(66,.int .i64 0)],[cO 2 (nth [.int .i64 p.atoms,ad p.rules]),cO 1 (fun _=>ah V),cO (n*1) (eS (fun _=>3))],g⟩) (h1:=?_) (h2:=?_)) ?_
 ·exact⟨Bs _,Bs _,BB omg,Bs _,Bs _,Bs _,trivial⟩
 ·exact⟨Bv _,⟨rfl,Nat.le_refl _,fun j hj=>match j,hj with|0,_=>Bs _⟩,⟨rfl,Nat.le_refl _,fun j hj=>Bt (by
   show AV.int .i64 (if j<n then 3 else 0)=AV.int .i64 3
   rw[if_pos omg])⟩,trivial⟩
 refine(a9 krf (fun (i:Nat)=>⟨[(1,ref 0 0),(4,ref 1 0),(8,ow true 2 n 1),(64,fz Fz.auto 2 ((aA l).l.length) fun (i:Nat)=>cS ((aA l).l.getD i default)),(65,i6 (↑((aA l).l.length):Int)),(66,.int .i64 i)],[cO 2 (nth [.int .i64 p.atoms,ad p.rules]),cO 1 (fun _=>ah V),cO (n*1) (eS (fu (fun _=>3) (l.take i)))],g⟩) (fun (i:Nat)=>(i<=l.length)) (fun (i:Nat)=>(l.length-i)) 0 (toL (h1:=⟨Bs _,Bs _,Bs _,Bs _,Bs _,(Bt krf),trivial⟩)) ?_ (fun i hi=>?_))
 ·exact Nat.zero_le _
 ·rcases Nat.lt_or_ge i l.length with hlt|hge
  ·have hsg:=oI hlt
   have hf:=hfit i hlt
   have h24:=hat24 i
   rw[hsg] at h24
   have hrt:=A4 (v:=fun _=>3) hlt
   obtain⟨s,hs⟩:∃s,l.getD i default=s:=⟨_,rfl⟩
   obtain⟨w,hw⟩:∃w,fu (fun _=>3) (l.take i)=w:=⟨_,rfl⟩
   rw[hs] at hsg hf hrt h24
   rw[hw] at hf hrt ⊢
   have h24:s.atoms.length<=24:=h24
   have hcl:decide ((i:Int)<((aA l).l.length:Int))=true:=decide_eq_true (by rw[hsl];omega)
   refine vcR [[1,1,1,1,1,1,0,1,0,0,1,0,1]] (lkL [(9,[1,4,8,64,65,66,67]),(10,[1,4,8,10,64,65,66]),(11,[1,4,8,10,64,65,66,71,72,73])]) (lkL [(10,[(3,ROrc.val (Orc.obj (nth [i6 (List.getD (aA l).l i default).rule,fz (List.getD (aA l).l i default).atoms.2 1 (List.length (List.getD (aA l).l i default).atoms.l) fun (i_1 x:Nat)=>af (List.getD (aA l).l i default).atoms.l i_1])))])]) (fun Q=>(fun (u1:AV)=>(fun (u2:Int)=>(fun (u3:List AV)=>(fun (u4:AV)=>(fun (u5:Int)=>(fun (u6:AObj)=>(fun (u7:AObj)=>(decide (u5<u2)=true->(0<=u5/\u5<u2)/\2<=2/\2<=2/\(∀(c:Nat),c<2->nth u3 c=al (nth [i6 0,fz Fz.nil 0 0 fun x x_1=>any]) 0 2 (List.brecOn (motive:=fun (x:List AV)=>Nat->AV) u3 nth._f) c)/\2<=2/\WpC Tryd.prog R 189 0 12 [1,1,1,1,1,1,0,1,0,0,1,1,0,0,1,1,0] Q [Kont.blk 2,Kont.blk 1,Kont.seq [1,1,1,1,1,1,0,1,0,0,1,1,1]] (St.mk [(1,ref 0 0),(4,ref 1 0),(8,ow true 2 n 1),(10,ref 3 0),(64,u4),(65,i6 u2),(66,i6 u5),(71,u1),(72,i6 (↑(List.length (List.getD (aA l).l i default).atoms.l):Int)),(73,i6 0)] [u7,u6,cO (n*1) fun a=>i6 (w a),cO 2 (nth u3)] g))/\(decide (u5<u2)=false->WpC Tryd.prog R 189 0 12 [1,1,1,1,1,1,0,1,0,0,1,0,1] Q [Kont.seq [1,1,1,1,1,1,0,1,0,0,1,1]] (St.mk [(1,ref 0 0),(4,ref 1 0),(8,ow true 2 n 1),(64,u4),(65,i6 u2),(66,i6 u5),(67,AV.bool (decide (u5<u2)))] [u7,u6,cO (n*1) fun a=>i6 (w a)] g))) (cO 2 (nth [i6 p.atoms,ad p.rules]))) (cO 1 fun x=>fz V.2 1 (List.length V.l) fun i x=>af V.l i)) ((↑i:Int))) (fz Fz.auto 2 (List.length (aA l).l) fun i=>cS (List.getD (aA l).l i default))) ([i6 (List.getD (aA l).l i default).rule,u1])) ((↑(List.length (aA l).l):Int))) (fz (List.getD (aA l).l i default).atoms.2 1 (List.length (List.getD (aA l).l i default).atoms.l) fun i_1 x=>af (List.getD (aA l).l i default).atoms.l i_1)) ⟨fun _=>⟨omg,omg,omg,(fun c hc=>match c,hc with|0,_=>krf|1,_=>krf ),omg,?_⟩,fun hcc=>(nomatch (hcl.symm.trans hcc))⟩
   rw[hsg]
   refine(a9 krf (fun (j:Nat)=>⟨[(1,ref 0 0),(4,ref 1 0),(8,ow true 2 n 1),(10,ref 3 0),(64,fz Fz.auto 2 ((aA l).l.length) fun (i:Nat)=>cS ((aA l).l.getD i default)),(65,i6 (↑((aA l).l.length):Int)),(66,i6 (i:Int)),(71,fz Fz.auto 1 ((a8 s).atoms.l.length) fun (i_1 x:Nat)=>af (a8 s).atoms.l i_1),(72,i6 (↑((a8 s).atoms.l.length):Int)),(73,.int .i64 j)],[cO 2 (nth [.int .i64 p.atoms,ad p.rules]),cO 1 (fun _=>ah V),cO (n*1) (eS (cN w (dj s) (s.atoms.take j))),cO 2 (nth [.int .i64 s.rule,ah ⟨s.atoms,.auto⟩])],g⟩) (fun (j:Nat)=>(j<=s.atoms.length)) (fun (j:Nat)=>(s.atoms.length-j)) 0 (toL (h1:=⟨Bs _,Bs _,Bs _,Bs _,Bs _,Bs _,Bs _,Bs _,Bs _,(Bt krf),trivial⟩)) ?_ (fun j hi=>?_))
   ·exact Nat.zero_le _
   ·rcases Nat.lt_or_ge j s.atoms.length with hj|hj
    ·obtain⟨a1,a2,a3⟩:=hf.at_ _ (bO s.atoms 0 hj)
     have h3:cN w (dj s) (s.atoms.take j) (s.atoms.getD j 0).toNat=3:=(Bf hf.inj hj a1).trans a3
     have hut:=Be (w:=w) (x:=dj s) hj a1
     have b1:0<=(a8 s).atoms.l.getD j 0:=a1
     have b2:(a8 s).atoms.l.getD j 0<p.atoms:=a2
     have b3:cN w (dj s) (s.atoms.take j) ((a8 s).atoms.l.getD j 0).toNat=3:=h3
     have hsl2:(a8 s).atoms.l.length=s.atoms.length:=rfl
     refine vcR [] (lkL [(12,[1,4,8,10,64,65,66,71,72,73,74]),(13,[1,4,8,10,12,64,65,66,71,72,73]),(14,[1,4,8,10,12,64,65,66,71,72,73,91]),(15,[2]),(16,[1,4,8,10,12,64,65,66,71,72,73]),(17,[1,4,8,10,12,64,65,66,71,72,73,97]),(18,[1,4,8,10,64,65,66,71,72,73]),(19,[1,4,8,10,64,65,66,71,72,73])]) (fun _=>[]) (fun Q=>(fun (u1:Int)=>(fun (u2:List (Nat × AV))=>(fun (u3:List AObj)=>(fun (u4:Int)=>(fun (u5:Bool)=>(fun (u6:Int)=>(fun (u7:AObj)=>(fun (u8:AObj)=>(fun (u9:Bool)=>(fun (u10:AObj)=>(decide (u6<u4)=true->(0<=u6/\u6<u4)/\1<=1/\((!decide (u1<0))=true->1<=2)/\((!u5)=true->0<=u1/\u1<(↑n:Int))/\((!u5)=true->Int.toNat u1+1<=n*1)/\(u9=true->Q AEx.ret (St.mk [(2,AV.bool false)] u3 g))/\(u9=false->(0<=u1/\u1<(↑n:Int))/\Int.toNat u1+1<=n*1/\1<=2/\((s.rule == -1)=true->(0<=u1/\u1<(↑n:Int))/\Int.toNat u1+1<=n*1/\(-9223372036854775808<=u6+1/\u6+1<=9223372036854775807)/\Q AEx.normal (St.mk u2 [u10,u8,cO (n*1) (al (al (fun (a:Nat)=>i6 (cN w (dj s) (List.take j s.atoms) a)) (Int.toNat u1) 1 fun x=>i6 2) (Int.toNat u1) 1 fun x=>i6 1),u7] g))/\((s.rule == -1)=false->(-9223372036854775808<=u6+1/\u6+1<=9223372036854775807)/\Q AEx.normal (St.mk u2 [u10,u8,cO (n*1) (al (fun (a:Nat)=>i6 (cN w (dj s) (List.take j s.atoms) a)) (Int.toNat u1) 1 fun x=>i6 2),u7] g))))/\(decide (u6<u4)=false->Q (AEx.exit 2) (St.mk [(1,ref 0 0),(4,ref 1 0),(8,ow true 2 n 1),(10,ref 3 0),(64,fz Fz.auto 2 (List.length (aA l).l) fun i=>cS (List.getD (aA l).l i default)),(65,i6 (↑(List.length (aA l).l):Int)),(66,i6 (↑i:Int)),(71,fz Fz.auto 1 (List.length (a8 s).atoms.l) fun i_1 x=>af (a8 s).atoms.l i_1),(72,i6 u4),(73,i6 u6),(74,AV.bool (decide (u6<u4)))] u3 g))) (cO 2 (nth [i6 p.atoms,ad p.rules]))) (bif u5 then true else cN w (dj s) (List.take j s.atoms) (Int.toNat u1) != 3)) (cO 1 fun x=>fz V.2 1 (List.length V.l) fun i x=>af V.l i)) (cO 2 (nth [i6 s.rule,fz Fz.auto 1 (List.length s.atoms) fun i x=>af s.atoms i]))) ((↑j:Int))) (bif decide (u1<0) then true else decide (u1 >= p.atoms))) ((↑(List.length (a8 s).atoms.l):Int))) ([cO 2 (nth [i6 p.atoms,ad p.rules]),cO 1 fun x=>fz V.2 1 (List.length V.l) fun i x=>af V.l i,cO (n*1) fun a=>i6 (cN w (dj s) (List.take j s.atoms) a),cO 2 (nth [i6 s.rule,fz Fz.auto 1 (List.length s.atoms) fun i x=>af s.atoms i])])) ([(1,ref 0 0),(4,ref 1 0),(8,ow true 2 n 1),(10,ref 3 0),(64,fz Fz.auto 2 (List.length (aA l).l) fun i=>cS (List.getD (aA l).l i default)),(65,i6 (↑(List.length (aA l).l):Int)),(66,i6 (↑i:Int)),(71,fz Fz.auto 1 (List.length (a8 s).atoms.l) fun i_1 x=>af (a8 s).atoms.l i_1),(72,i6 (↑(List.length (a8 s).atoms.l):Int)),(73,i6 ((↑j:Int)+1))])) (List.getD (a8 s).atoms.l j 0)) ⟨fun c1=>have c1:(↑j:Int)<(↑(List.length (a8 s).atoms.l):Int):=(of_decide_eq_true c1);⟨omg,omg,omg,omg,omg,fun c2=>have c2:(List.getD (a8 s).atoms.l j 0<0∨List.getD (a8 s).atoms.l j 0 >= p.atoms)∨¬cN w (dj s) (List.take j s.atoms) (Int.toNat (List.getD (a8 s).atoms.l j 0))=3:=((eq c2).imp (fun h=>((eq h).imp (fun h=>(of_decide_eq_true h)) (fun h=>(of_decide_eq_true h)))) (fun h=>(bne_iff_ne.mp h)));?_,fun c2=>have c2:(¬List.getD (a8 s).atoms.l j 0<0/\¬List.getD (a8 s).atoms.l j 0 >= p.atoms)/\cN w (dj s) (List.take j s.atoms) (Int.toNat (List.getD (a8 s).atoms.l j 0))=3:=⟨⟨(of_decide_eq_false (bY (bY c2).1).1),(of_decide_eq_false (bY (bY c2).1).2)⟩,(bne_eq_false_iff_eq.mp (bY c2).2)⟩;⟨omg,omg,omg,fun c3=>have c3:s.rule = -1:=(beq_iff_eq.mp c3);⟨omg,omg,omg,?_⟩,fun c3=>have c3:¬s.rule = -1:=(beq_eq_false_iff_ne.mp c3);⟨omg,?_⟩⟩⟩,fun c1=>have c1:¬(↑j:Int)<(↑(List.length (a8 s).atoms.l):Int):=(of_decide_eq_false c1);?_⟩
     ·exfalso
      rcases c2 with(h|h)|h
      ·omega
      ·omega
      ·exact h b3
     ·have hx:dj s=1:=if_pos c3
      refine(aO (j+1) (toL (h1:=⟨Bs _,Bs _,Bs _,Bs _,Bs _,Bs _,Bs _,Bs _,Bs _,(Bt krf),trivial⟩) (h2:=⟨Bu,Bu,?_,Bu,trivial⟩)) ?_ ?_)
      ·exact⟨rfl,Nat.le_refl _,fun c _=>Bt (Bg (fun j=>by rw[hut,hx];rfl))⟩
      ·omega
      ·omega
     ·have hx:dj s=2:=if_neg c3
      refine(aO (j+1) (toL (h1:=⟨Bs _,Bs _,Bs _,Bs _,Bs _,Bs _,Bs _,Bs _,Bs _,(Bt krf),trivial⟩) (h2:=⟨Bu,Bu,?_,Bu,trivial⟩)) ?_ ?_)
      ·exact⟨rfl,Nat.le_refl _,fun c _=>Bt (Bd (fun j=>by rw[hut,hx];rfl))⟩
      ·omega
      ·omega
     ·exfalso;omega
    ·have hje:j=s.atoms.length:=by omega
     subst hje
     have hjl:decide ((s.atoms.length:Int)<((a8 s).atoms.l.length:Int))=false:=decide_eq_false (by rw[show(a8 s).atoms.l.length=s.atoms.length from rfl];omega)
     rw[List.take_length]
     refine vcR [[1,1,1,1,1,1,0,1,0,0,1,1,0,0,1,1,0,0,1,0,0]] (lkL [(12,[1,4,8,10,64,65,66,71,72,73,74])]) (fun _=>[]) (fun Q=>(fun (u1:St R.σ)=>(fun (u2:Int)=>(fun (u3:Int)=>(decide (u3<u2)=true->WpC Tryd.prog R 189 0 12 [1,1,1,1,1,1,0,1,0,0,1,1,0,0,1,1,0,0,1,0,0] Q [Kont.seq [1,1,1,1,1,1,0,1,0,0,1,1,0,0,1,1,0,0,1,1]] u1)/\(decide (u3<u2)=false->Q (AEx.exit 2) u1)) ((↑(List.length s.atoms):Int))) ((↑(List.length (a8 s).atoms.l):Int))) (St.mk [(1,ref 0 0),(4,ref 1 0),(8,ow true 2 n 1),(10,ref 3 0),(64,fz Fz.auto 2 (List.length (aA l).l) fun i=>cS (List.getD (aA l).l i default)),(65,i6 (↑(List.length (aA l).l):Int)),(66,i6 (↑i:Int)),(71,fz Fz.auto 1 (List.length (a8 s).atoms.l) fun i_1 x=>af (a8 s).atoms.l i_1),(72,i6 (↑(List.length (a8 s).atoms.l):Int)),(73,i6 (↑(List.length s.atoms):Int)),(74,AV.bool (decide ((↑(List.length s.atoms):Int)<(↑(List.length (a8 s).atoms.l):Int))))] [cO 2 (nth [i6 p.atoms,ad p.rules]),cO 1 fun x=>fz V.2 1 (List.length V.l) fun i x=>af V.l i,cO (n*1) fun a=>i6 (cN w (dj s) s.atoms a),cO 2 (nth [i6 s.rule,fz Fz.auto 1 (List.length s.atoms) fun i x=>af s.atoms i])] g)) ⟨fun hcc=>(nomatch (hjl.symm.trans hcc)),fun _=>?_⟩
     refine⟨_,BE _,vcR [] (lkL [(20,[1,4,8,64,65,66])]) (fun _=>[]) (fun Q=>(-9223372036854775808<=(↑i:Int)+1/\(↑i:Int)+1<=9223372036854775807)/\Q AEx.normal (St.mk [(1,ref 0 0),(4,ref 1 0),(8,ow true 2 n 1),(64,fz Fz.auto 2 (List.length (aA l).l) fun i=>cS (List.getD (aA l).l i default)),(65,i6 (↑(List.length (aA l).l):Int)),(66,i6 ((↑i:Int)+1))] [cO 2 (nth [i6 p.atoms,ad p.rules]),cO 1 fun x=>fz V.2 1 (List.length V.l) fun i x=>af V.l i,cO (n*1) fun a=>i6 (cN w (dj s) s.atoms a),cO 2 (nth [i6 s.rule,fz Fz.auto 1 (List.length s.atoms) fun i x=>af s.atoms i])] g)) ⟨omg,?_⟩⟩
     refine(aO (i+1) (toS [0,1,2] 4 (hob:=⟨⟨rfl,Nat.le_refl _,fun j hj=>match j,hj with|0,_=>(Bs _)|1,_=>(Bs _) ⟩,⟨rfl,Nat.le_refl _,fun j hj=>match j,hj with|0,_=>(Bs _) ⟩,?_,trivial⟩)) ?_ ?_)
     ·rw[hrt,hf.upd]
      exact Bv _
     ·omega
     ·omega
  ·have hie:i=l.length:=by omega
   subst hie
   rw[List.take_length,<-hrv]
   have hcl:decide ((l.length:Int)<((aA l).l.length:Int))=false:=decide_eq_false (by rw[hsl];omega)
   refine b9 (nQ 2 [(1,.ref 0 0),(4,.ref 1 0),(8,ah ⟨V.l,.auto⟩),(65,.int .i64 (aA l).l.length),(66,.int .i64 l.length)] [cO 2 (nth [.int .i64 p.atoms,ad p.rules]),cO 1 (fun _=>ah V)] (Nat.zero_le _) (by show 2<=3;omega) rfl (fun i hi=>match i,hi with
    |0,_=>⟨rfl,rfl,fun j hj=>match j,hj with|0,_=>Bz trivial|1,_=>Bz trivial⟩
    |1,_=>⟨rfl,rfl,fun j hj=>Bz trivial⟩) ⟨Bz (show 0<2 by omega),Bz (show 1<2 by omega),Bh (o:=2) hVl hVg rfl omg,Bz trivial,Bz trivial,trivial⟩) ?_
   have hE:∀(R:Res) (hp:List AObj) (g:R.σ),Does Tryd.prog R 48 [ah ⟨V.l,.auto⟩,ah V] hp g (.ret (.bool true)) hp g:=fun R hp g=>by
    have h:=AS R ⟨V.l,.auto⟩ V hp g (by show V.l.length<_;omega)
    rw[decide_eq_true (show(KL.mk V.l Fz.auto).l=V.l from rfl)] at h
    exact h
   obtain⟨mT,hmT⟩:∃m:List Bool,m=[true]:=⟨_,rfl⟩
   have hRB:∀(R:Res) (hp:List AObj) (g:R.σ),Does Tryd.prog R 49 [ko mT,.int .i64 p.atoms] hp g (.ret (.sl hp.length 0 n n true 1)) (hp++[cO (n*1) (eD true n)]) g:=fun R hp g=>by rw[hpa];exact AX R true mT n omg omg hmT hp g
   refine vcR [[1,1,1,1,1,1,0,1,0,0,1,0,0]] (lkL [(9,[1,4,8,64,65,66,67])]) (fun _=>[]) (fun Q=>(fun (u1:St R.σ)=>(fun (u2:Int)=>(fun (u3:Int)=>(decide (u3<u2)=true->WpC Tryd.prog R 189 0 12 [1,1,1,1,1,1,0,1,0,0,1,0,0] Q [Kont.seq [1,1,1,1,1,1,0,1,0,0,1,1]] u1)/\(decide (u3<u2)=false->Q (AEx.exit 0) u1)) ((↑(List.length l):Int))) ((↑(List.length (aA l).l):Int))) (St.mk [(1,ref 0 0),(4,ref 1 0),(8,fz Fz.auto 1 (List.length V.l) fun i x=>af V.l i),(64,any),(65,i6 (↑(List.length (aA l).l):Int)),(66,i6 (↑(List.length l):Int)),(67,AV.bool (decide ((↑(List.length l):Int)<(↑(List.length (aA l).l):Int))))] [cO 2 (nth [i6 p.atoms,ad p.rules]),cO 1 fun x=>fz V.2 1 (List.length V.l) fun i x=>af V.l i] g)) ⟨fun hcc=>(nomatch (hcl.symm.trans hcc)),fun _=>?_⟩
   refine⟨_,BE _,vcR [[1,1,1,1,1,1,1,1],[1,1,1,1,1,1,1,0,1,0]] (lkL [(21,[1,4,106])]) (lkL [(21,[(2,ROrc.pcall (AV.bool true))])]) (fun Q=>(fun (u1:St R.σ)=>1<=1/\(∀(hp:List AObj) (g:R.σ),true=true/\Does Tryd.prog R 48 [fz Fz.auto 1 (List.length V.l) fun i x=>af V.l i,fz V.2 1 (List.length V.l) fun i x=>af V.l i] hp g (ret (AV.bool true)) hp g)/\(false=true->WpC Tryd.prog R 189 0 12 [1,1,1,1,1,1,1,0,1,0] Q [Kont.seq [1,1,1,1,1,1,1,1]] u1)/\(false=false->WpC Tryd.prog R 189 0 12 [1,1,1,1,1,1,1,1] Q [] u1)) (St.mk [(1,ref 0 0),(4,ref 1 0),(106,AV.bool false)] [cO 2 (nth [i6 p.atoms,ad p.rules]),cO 1 fun x=>fz V.2 1 (List.length V.l) fun i x=>af V.l i] g)) ⟨omg,(fun _ _=>⟨rfl,(hE _ _ _)⟩),fun h=>(nomatch h),fun _=>?_⟩⟩
   refine xq krf ?_
   refine' Bi (C:=Wp Tryd.prog R 189 0 Rd.top (aw Tryd.prog 12) _ _ ⟨[(1,.ref 0 0),(4,.ref 1 0),(13,.ow true 2 n 1),(14,.ow true 3 n 1)],[cO 2 (nth [.int .i64 p.atoms,ad p.rules]),cO 1 (fun _=>ah V),cO (n*1) (dk (fun _=>false)),cO (n*1) (dk (fun _=>true))],g⟩) (fun key=>?_) ?_
   rotate_left
   rotate_left
   ·refine xn krf 2 6 [] [] [0,1,6,2,3,4,5] [0,1,3,4,5,6,2] krf ?_ ?_
    ·refine rm [] (lkL [(23,[1,4,13,14])]) (lkL [(23,[(3,ROrc.look (ko mT) []),(6,ROrc.callN (sl (List.length [cO 2 (nth [i6 p.atoms,ad p.rules]),cO 1 fun (x:Nat)=>fz V.2 1 (List.length V.l) fun (i x:Nat)=>af V.l i,cO (Int.toNat p.atoms*1) fun (j:Nat)=>AV.bool false]) 0 n n true 1) [] [cO (n*1) (eD true n)] g)])]) (fun Q=>(fun (u1:Oper)=>(fun (u2:List AObj)=>(fun (u3:List AObj)=>(fun (u4:AV)=>(fun (u5:AV)=>Flw Tryd.prog/\1<=2/\0<=p.atoms/\p.atoms<=p.atoms/\p.atoms<=140737488355328/\Int.toNat p.atoms*1<=aC/\(∀(hp':List AObj) (g':R.σ),SameO [] u3 hp'->OpOk Tryd.prog R (Oper.mk u1.dst u1.op u1.type u1.pos (Array.map (fun (e:Edge)=>Edge.mk (pm [] e.on) e.ground) u1.after++if 3=6 then #[Edge.mk 2 Ground.data] else #[]) (Option.map (fun (g:Nat × Bool)=>(pm [] g.fst,g.snd)) u1.guard)) (evO [Row.mk (some 109) none u5 true (some [2]) [],Row.mk (some 108) none (i6 p.atoms) false (some []) [0],Row.mk (some 107) none (ref 0 0) false (some []) []] [(1,ref 0 0),(4,ref 1 0),(106,AV.bool false)] []) hp' g' u4 hp' g')/\1<=2/\(true=true/\Does Tryd.prog R 49 [u4,i6 p.atoms] u3 g (ret (sl 3 0 n n true 1)) u2 g)/\Q AEx.normal (St.mk [(1,ref 0 0),(4,ref 1 0),(13,u5),(14,sl 3 0 n n true 1)] u2 g)) (sl 2 0 (Int.toNat p.atoms) (Int.toNat p.atoms) true 1)) (fz Fz.exa 1 (List.length mT) fun i x=>aI mT i)) ([cO 2 (nth [i6 p.atoms,ad p.rules]),cO 1 fun x=>fz V.2 1 (List.length V.l) fun i x=>af V.l i,cO (Int.toNat p.atoms*1) fun j=>AV.bool false])) ([cO 2 (nth [i6 p.atoms,ad p.rules]),cO 1 fun x=>fz V.2 1 (List.length V.l) fun i x=>af V.l i,cO (Int.toNat p.atoms*1) fun j=>AV.bool false,cO (n*1) fun a=>AV.bool (if a<n then true else false)])) (Array.getD #[Oper.mk (some 107) (Op.fieldAddr 24 (Operand.tmp 1) 0) 0 "outright.go:55" #[] none,Oper.mk (some 108) (Op.load 3 (Operand.tmp 107)) 3 "outright.go:55" #[Edge.mk 0 Ground.data] none,Oper.mk (some 109) (Op.makeSlice 62 (Operand.tmp 108) (Operand.tmp 108)) 62 "outright.go:55" #[Edge.mk 1 Ground.data,Edge.mk 1 Ground.data] none,Oper.mk (some 110) (Op.buildSlice 62 1 #[(0,Operand.const (Value.bool true))]) 62 "outright.go:55" #[] none,Oper.mk (some 111) (Op.fieldAddr 24 (Operand.tmp 1) 0) 0 "outright.go:55" #[] none,Oper.mk (some 112) (Op.load 3 (Operand.tmp 111)) 3 "outright.go:55" #[Edge.mk 4 Ground.data] none,Oper.mk (some 113) (Op.call (Call.mk (Callee.value (Operand.func 49)) #[Operand.tmp 110,Operand.tmp 112] #[62,3])) 62 "outright.go:55" #[Edge.mk 3 Ground.data,Edge.mk 5 Ground.data] none,Oper.mk (some 13) (Op.assign (Operand.tmp 109)) 62 "outright.go:55" #[Edge.mk 2 Ground.data,Edge.mk 6 Ground.chain,Edge.mk 0 Ground.phase,Edge.mk 1 Ground.phase,Edge.mk 2 Ground.phase,Edge.mk 3 (Ground.textOnly Departure.lateStores),Edge.mk 4 (Ground.textOnly Departure.lateStores),Edge.mk 5 (Ground.textOnly Departure.lateStores),Edge.mk 6 (Ground.textOnly Departure.lateStoresUnsure)] none,Oper.mk (some 14) (Op.assign (Operand.tmp 113)) 62 "outright.go:55" #[Edge.mk 6 Ground.data,Edge.mk 7 Ground.chain,Edge.mk 0 Ground.phase,Edge.mk 1 Ground.phase,Edge.mk 2 Ground.phase,Edge.mk 3 Ground.phase,Edge.mk 4 Ground.phase,Edge.mk 5 Ground.phase,Edge.mk 6 Ground.phase,Edge.mk 7 Ground.phase] none] 3 default)) krf (fun _=>krf) ⟨krf,omg,omg,omg,omg,omg,?_,omg,⟨rfl,(hRB _ _ _)⟩,?_⟩
     ·intro hp' g' hh
      subst hmT
      exact bT (n:=1) (es:=1) krf (by exact⟨trivial,trivial⟩) rfl rfl (fun i hi j hj=>match i,hi,j,hj with|0,_,0,_=>krf ) (fun i hi j hj=>match i,hi,j,hj with|0,_,0,_=>trivial )
     ·refine tX ?_
      refine b9 ?_ (tW key ?_ ?_)
      rotate_left
      ·rfl
      ·rfl
      ·refine iy ⟨Bs _,Bs _,?_,BB omg,trivial⟩ ⟨Bv _,Bv _,?_,⟨rfl,Nat.le_refl _,fun j hj=>Bt ?_⟩,trivial⟩ rfl
       ·show Le (.sl 2 0 p.atoms.toNat p.atoms.toNat true 1) (.ow true 2 n 1)
        rw[hn]
        exact BB omg
       ·show LeO (cO (p.atoms.toNat*1) _) _
        rw[hn]
        exact Bv _
       ·show AV.bool (if j<n then true else false)=AV.bool true
        rw[if_pos omg]
    ·refine rm [] (lkL [(23,[1,4,13,14])]) (lkL [(23,[(2,ROrc.look (ko mT) []),(5,ROrc.callN (sl (List.length [cO 2 (nth [i6 p.atoms,ad p.rules]),cO 1 fun (x:Nat)=>fz V.2 1 (List.length V.l) fun (i x:Nat)=>af V.l i]) 0 n n true 1) [] [cO (n*1) (eD true n)] g)])]) (fun Q=>(fun (u1:Oper)=>(fun (u2:AObj)=>(fun (u3:AObj)=>(fun (u4:AObj)=>(fun (u5:AV)=>Flw Tryd.prog/\1<=2/\(∀(hp':List AObj) (g':R.σ),SameO [] [u3,u2] hp'->OpOk Tryd.prog R (Oper.mk u1.dst u1.op u1.type u1.pos (Array.map (fun (e:Edge)=>Edge.mk (pm [0,1,6,2,3,4,5] e.on) e.ground) u1.after++if 3=2 then #[Edge.mk 5 Ground.data] else #[]) (Option.map (fun (g:Nat × Bool)=>(pm [0,1,6,2,3,4,5] g.fst,g.snd)) u1.guard)) (evO [Row.mk (some 108) none (i6 p.atoms) false (some []) [0],Row.mk (some 107) none (ref 0 0) false (some []) []] [(1,ref 0 0),(4,ref 1 0),(106,AV.bool false)] []) hp' g' u5 hp' g')/\1<=2/\(true=true/\Does Tryd.prog R 49 [u5,i6 p.atoms] [u3,u2] g (ret (sl 2 0 n n true 1)) [u3,u2,u4] g)/\0<=p.atoms/\p.atoms<=p.atoms/\p.atoms<=140737488355328/\Int.toNat p.atoms*1<=aC/\Q AEx.normal (St.mk [(1,ref 0 0),(4,ref 1 0),(13,sl 3 0 (Int.toNat p.atoms) (Int.toNat p.atoms) true 1),(14,sl 2 0 n n true 1)] [u3,u2,u4,cO (Int.toNat p.atoms*1) fun j=>AV.bool false] g)) (fz Fz.exa 1 (List.length mT) fun i x=>aI mT i)) (cO (n*1) fun a=>AV.bool (if a<n then true else false))) (cO 2 (nth [i6 p.atoms,ad p.rules]))) (cO 1 fun x=>fz V.2 1 (List.length V.l) fun i x=>af V.l i)) (Array.getD #[Oper.mk (some 107) (Op.fieldAddr 24 (Operand.tmp 1) 0) 0 "outright.go:55" #[] none,Oper.mk (some 108) (Op.load 3 (Operand.tmp 107)) 3 "outright.go:55" #[Edge.mk 0 Ground.data] none,Oper.mk (some 109) (Op.makeSlice 62 (Operand.tmp 108) (Operand.tmp 108)) 62 "outright.go:55" #[Edge.mk 1 Ground.data,Edge.mk 1 Ground.data] none,Oper.mk (some 110) (Op.buildSlice 62 1 #[(0,Operand.const (Value.bool true))]) 62 "outright.go:55" #[] none,Oper.mk (some 111) (Op.fieldAddr 24 (Operand.tmp 1) 0) 0 "outright.go:55" #[] none,Oper.mk (some 112) (Op.load 3 (Operand.tmp 111)) 3 "outright.go:55" #[Edge.mk 4 Ground.data] none,Oper.mk (some 113) (Op.call (Call.mk (Callee.value (Operand.func 49)) #[Operand.tmp 110,Operand.tmp 112] #[62,3])) 62 "outright.go:55" #[Edge.mk 3 Ground.data,Edge.mk 5 Ground.data] none,Oper.mk (some 13) (Op.assign (Operand.tmp 109)) 62 "outright.go:55" #[Edge.mk 2 Ground.data,Edge.mk 6 Ground.chain,Edge.mk 0 Ground.phase,Edge.mk 1 Ground.phase,Edge.mk 2 Ground.phase,Edge.mk 3 (Ground.textOnly Departure.lateStores),Edge.mk 4 (Ground.textOnly Departure.lateStores),Edge.mk 5 (Ground.textOnly Departure.lateStores),Edge.mk 6 (Ground.textOnly Departure.lateStoresUnsure)] none,Oper.mk (some 14) (Op.assign (Operand.tmp 113)) 62 "outright.go:55" #[Edge.mk 6 Ground.data,Edge.mk 7 Ground.chain,Edge.mk 0 Ground.phase,Edge.mk 1 Ground.phase,Edge.mk 2 Ground.phase,Edge.mk 3 Ground.phase,Edge.mk 4 Ground.phase,Edge.mk 5 Ground.phase,Edge.mk 6 Ground.phase,Edge.mk 7 Ground.phase] none] 3 default)) krf (fun _=>krf) ⟨krf,omg,?_,omg,⟨rfl,(hRB _ _ _)⟩,omg,omg,omg,omg,?_⟩
     ·intro hp' g' hh
      subst hmT
      exact bT (n:=1) (es:=1) krf (by exact⟨trivial,trivial⟩) rfl rfl (fun i hi j hj=>match i,hi,j,hj with|0,_,0,_=>krf ) (fun i hi j hj=>match i,hi,j,hj with|0,_,0,_=>trivial )
     ·refine tX ?_
      refine b9 ?_ (tW key ?_ ?_)
      rotate_left
      ·rfl
      ·rfl
      ·refine d5 [0,1,3,2] 4 rfl rfl rfl rfl rfl ⟨Bs _,Bs _,?_,BB omg,trivial⟩ ⟨BC (fun j hj=>match j,hj with|0,_=>rfl|1,_=>rfl),BC (fun j hj=>match j,hj with|0,_=>rfl),?_,⟨rfl,Nat.le_refl _,fun j hj=>Bt ?_⟩,trivial⟩
       ·show Le (.sl 3 0 p.atoms.toNat p.atoms.toNat true 1) (.ow true 3 n 1)
        rw[hn]
        exact BB omg
       ·show LeO (cO (p.atoms.toNat*1) _) (cO (n*1) _)
        rw[hn]
        exact Bv _
       ·show AV.bool (if j<n then true else false)=AV.bool true
        rw[if_pos omg]
   ·refine vcR [] (lkL [(24,[1,4,13,14,115,116,117])]) (fun _=>[]) (fun Q=>2<=2/\WpC Tryd.prog R 189 0 12 [1,1,1,1,1,1,1,1,1,0,1,0] Q [Kont.blk 4,Kont.seq [1,1,1,1,1,1,1,1,1,1]] (St.mk [(1,ref 0 0),(4,ref 1 0),(13,ow true 2 n 1),(14,ow true 3 n 1),(115,ad p.rules),(116,i6 (↑(List.length p.rules.l):Int)),(117,i6 0)] [cO 2 (nth [i6 p.atoms,ad p.rules]),cO 1 fun x=>fz V.2 1 (List.length V.l) fun i x=>af V.l i,cO (n*1) fun a=>AV.bool false,cO (n*1) fun a=>AV.bool true] g)) ⟨omg,?_⟩
    refine(a9 krf (fun (k:Nat)=>⟨[(1,ref 0 0),(4,ref 1 0),(13,ow true 2 n 1),(14,ow true 3 n 1),(115,ad p.rules),(116,i6 (p.rules.l.length:Int)),(117,.int .i64 k)],[cO 2 (nth [.int .i64 p.atoms,ad p.rules]),cO 1 (fun _=>ah V),cO (n*1) (dk (cz V.l (p.rules.l.take k))),cO (n*1) (dk (cA V.l (p.rules.l.take k)))],g⟩) (fun (k:Nat)=>(k<=p.rules.l.length)) (fun (k:Nat)=>(p.rules.l.length-k)) 0 (aT ⟨Bs _,Bs _,Bs _,Bs _,Bs _,Bs _,(Bt krf),trivial⟩ rfl rfl) ?_ (fun k hi=>?_))
    ·exact Nat.zero_le _
    ·rcases Nat.lt_or_ge k p.rules.l.length with hk|hk
     ·have hrm:=bO p.rules.l default hk
      have hrk:=hrn _ hrm
      have hhd:0<=(p.rules.l.getD k default).head/\(p.rules.l.getD k default).head<(n:Int):=hrk.2
      have hbl:(p.rules.l.getD k default).body.l.length<1000000:=by have:=hrk.1.1;omega
      obtain⟨q,hqr⟩:∃q,p.rules.l.getD k default=q:=⟨_,rfl⟩
      have hs1:fW V.l q=true->∀j,cz V.l (p.rules.l.take (k+1)) j=if j=q.head.toNat then true else cz V.l (p.rules.l.take k) j:=fun h j=>by
       unfold cz
       rw[mj hk,hqr,h]
       by_cases e:q.head.toNat=j
       ·rw[if_pos e.symm];simp[e]
       ·rw[if_neg (fun x=>e x.symm)];simp[e]
      have hs2:fW V.l q=false->cz V.l (p.rules.l.take (k+1))=cz V.l (p.rules.l.take k):=fun h=>funext fun j=>by
       unfold cz
       rw[mj hk,hqr,h]
       simp
      have hn1:fX V.l q=true->∀j,cA V.l (p.rules.l.take (k+1)) j=if j=q.head.toNat then false else cA V.l (p.rules.l.take k) j:=fun h j=>by
       unfold cA
       rw[mj hk,hqr,h]
       by_cases e:q.head.toNat=j
       ·rw[if_pos e.symm];simp[e]
       ·rw[if_neg (fun x=>e x.symm)];simp[e]
      have hn2:fX V.l q=false->cA V.l (p.rules.l.take (k+1))=cA V.l (p.rules.l.take k):=fun h=>funext fun j=>by
       unfold cA
       rw[mj hk,hqr,h]
       simp
      rw[hqr] at hrk hhd hbl
      rw[<-hqr] at hs1 hs2 hn1 hn2 hrk hhd hbl
      refine vcR [] (lkL [(25,[1,4,13,14,115,116,117,118]),(26,[1,4,13,14,16,115,116,117]),(27,[1,4,13,14,16,115,116,117,125]),(28,[1,4,13,14,16,115,116,117]),(29,[1,4,13,14,16,115,116,117,134]),(30,[1,4,13,14,115,116,117]),(31,[1,4,13,14,115,116,117])]) (lkL [(26,[(3,ROrc.val (Orc.obj (nth [i6 (List.getD p.rules.l k default).head,am (List.getD p.rules.l k default).body])))]),(27,[(3,ROrc.kcall (AV.bool (List.any (List.getD p.rules.l k default).body.l fun (r:Lit)=> !eE V.l r)))]),(29,[(3,ROrc.kcall (AV.bool (List.any (List.getD p.rules.l k default).body.l (dL V.l)))),(3,ROrc.kcall (AV.bool (List.any (List.getD p.rules.l k default).body.l (dL V.l))))])]) (fun Q=>(fun (u1:List AObj)=>(fun (u2:Rule)=>(fun (u3:List AObj)=>(fun (u4:List (Nat × AV))=>(fun (u5:Int)=>(fun (u6:List AObj)=>(fun (u7:AObj)=>(fun (u8:Int)=>(fun (u9:Bool)=>(fun (u10:AObj)=>(fun (u11:Bool)=>(fun (u12:AObj)=>(fun (u13:Int)=>(fun (u14:Int)=>(decide (u8<u5)=true->(0<=u8/\u8<u5)/\2<=2/\2<=2/\(∀(c:Nat),c<2->nth [i6 u2.head,am u2.body] c=al (nth [i6 0,fz Fz.nil 0 0 fun x x_1=>any]) 0 2 (List.brecOn (motive:=fun (x:List AV)=>Nat->AV) [i6 u2.head,am u2.body] nth._f) c)/\2<=2/\(true=true/\Does Tryd.prog R 50 [am u2.body,fn 51 0 (nth []) 1 (nth [ref 1 0])] u1 g (ret (AV.bool u11)) u1 g)/\((!u11)=true->1<=2/\(0<=u2.head/\u2.head<(↑n:Int))/\Int.toNat u2.head+1<=n*1/\2<=2/\(true=true/\Does Tryd.prog R 50 [am u2.body,fn 53 0 (nth []) 1 (nth [ref 1 0])] u3 g (ret (AV.bool u9)) u3 g)/\((!u9)=true->1<=2/\(0<=u2.head/\u2.head<(↑n:Int))/\Int.toNat u2.head+1<=n*1/\(u13<=u8+1/\u8+1<=u14)/\Q AEx.normal (St.mk u4 (u10::u7::cO (n*1) (al (fun (a:Nat)=>AV.bool (cz V.l (List.take k p.rules.l) a)) (Int.toNat u2.head) 1 fun x=>AV.bool true)::u6) g))/\((!u9)=false->(u13<=u8+1/\u8+1<=u14)/\Q AEx.normal (St.mk u4 u3 g)))/\((!u11)=false->2<=2/\(true=true/\Does Tryd.prog R 50 [am u2.body,fn 53 0 (nth []) 1 (nth [ref 1 0])] u1 g (ret (AV.bool u9)) u1 g)/\((!u9)=true->1<=2/\(0<=u2.head/\u2.head<(↑n:Int))/\Int.toNat u2.head+1<=n*1/\(u13<=u8+1/\u8+1<=u14)/\Q AEx.normal (St.mk u4 (u10::u7::u12::u6) g))/\((!u9)=false->(u13<=u8+1/\u8+1<=u14)/\Q AEx.normal (St.mk u4 u1 g))))/\(decide (u8<u5)=false->Q (AEx.exit 4) (St.mk [(1,ref 0 0),(4,ref 1 0),(13,ow true 2 n 1),(14,ow true 3 n 1),(115,ad p.rules),(116,i6 u5),(117,i6 u8),(118,AV.bool (decide (u8<u5)))] [u10,u7,u12,cO (n*1) fun a=>AV.bool (cA V.l (List.take k p.rules.l) a)] g))) (9223372036854775807)) (-9223372036854775808)) (cO (n*1) fun a=>AV.bool (cz V.l (List.take k p.rules.l) a))) (List.any u2.body.l fun (r:Lit)=> !eE V.l r)) (cO 2 (nth [i6 p.atoms,ad p.rules]))) (List.any u2.body.l (dL V.l))) ((↑k:Int))) (cO 1 fun x=>fz V.2 1 (List.length V.l) fun i x=>af V.l i)) ([cO (n*1) (al (fun (a:Nat)=>AV.bool (cA V.l (List.take k p.rules.l) a)) (Int.toNat u2.head) 1 fun x=>AV.bool false),cO 2 (nth [i6 u2.head,am u2.body])])) ((↑(List.length p.rules.l):Int))) ([(1,ref 0 0),(4,ref 1 0),(13,ow true 2 n 1),(14,ow true 3 n 1),(115,ad p.rules),(116,i6 (↑(List.length p.rules.l):Int)),(117,i6 ((↑k:Int)+1))])) ([cO 2 (nth [i6 p.atoms,ad p.rules]),cO 1 fun x=>fz V.2 1 (List.length V.l) fun i x=>af V.l i,cO (n*1) (al (fun (a:Nat)=>AV.bool (cz V.l (List.take k p.rules.l) a)) (Int.toNat u2.head) 1 fun x=>AV.bool true),cO (n*1) fun a=>AV.bool (cA V.l (List.take k p.rules.l) a),cO 2 (nth [i6 u2.head,am u2.body])])) (List.getD p.rules.l k default)) ([cO 2 (nth [i6 p.atoms,ad p.rules]),cO 1 fun x=>fz V.2 1 (List.length V.l) fun i x=>af V.l i,cO (n*1) fun a=>AV.bool (cz V.l (List.take k p.rules.l) a),cO (n*1) fun a=>AV.bool (cA V.l (List.take k p.rules.l) a),cO 2 (nth [i6 (List.getD p.rules.l k default).head,am (List.getD p.rules.l k default).body])])) ⟨fun c1=>have c1:(↑k:Int)<(↑(List.length p.rules.l):Int):=(of_decide_eq_true c1);⟨omg,omg,omg,(fun c hc=>match c,hc with|0,_=>krf|1,_=>krf ),omg,⟨rfl,(gl _ _ _ _ _ _ _ _ _ _ omg krf (fun r _=>(doT (T:=LT) [1] 5 (fun R _ g=>Ba R (V) (r) ?_ g))))⟩,fun c2=>have c2:(List.any (List.getD p.rules.l k default).body.l fun (r:Lit)=> !eE V.l r)=false:=((Bool.not_eq_true' _).mp c2);⟨omg,omg,omg,omg,⟨rfl,(gl _ _ _ _ _ _ _ _ _ _ omg krf (fun r _=>(doT (T:=LT) [1] 5 (fun R _ g=>tQ R (V) (r) ?_ g))))⟩,fun c3=>have c3:List.any (List.getD p.rules.l k default).body.l (dL V.l)=false:=((Bool.not_eq_true' _).mp c3);⟨omg,omg,omg,omg,?_⟩,fun c3=>have c3:List.any (List.getD p.rules.l k default).body.l (dL V.l)=true:=((Bool.not_eq_false' _).mp c3);⟨omg,?_⟩⟩,fun c2=>have c2:(List.any (List.getD p.rules.l k default).body.l fun (r:Lit)=> !eE V.l r)=true:=((Bool.not_eq_false' _).mp c2);⟨omg,⟨rfl,(gl _ _ _ _ _ _ _ _ _ _ omg krf (fun r _=>(doT (T:=LT) [1] 5 (fun R _ g=>tQ R (V) (r) ?_ g))))⟩,fun c3=>have c3:List.any (List.getD p.rules.l k default).body.l (dL V.l)=false:=((Bool.not_eq_true' _).mp c3);⟨omg,omg,omg,omg,?_⟩,fun c3=>have c3:List.any (List.getD p.rules.l k default).body.l (dL V.l)=true:=((Bool.not_eq_false' _).mp c3);⟨omg,?_⟩⟩⟩,fun c1=>have c1:¬(↑k:Int)<(↑(List.length p.rules.l):Int):=(of_decide_eq_false c1);?_⟩
      ·have:=hrk.1.2 _ (by assumption)
       omega
      ·have:=hrk.1.2 _ (by assumption)
       omega
      ·refine(aO (k+1) (toS [0,1,2,3] 5 (hob:=⟨⟨rfl,Nat.le_refl _,fun j hj=>match j,hj with|0,_=>(Bs _)|1,_=>(Bs _) ⟩,⟨rfl,Nat.le_refl _,fun j hj=>match j,hj with|0,_=>(Bs _) ⟩,?_,?_,trivial⟩)) ?_ ?_)
       ·exact⟨rfl,Nat.le_refl _,fun c _=>Bt (ml (hs1 (by unfold fW;rw[c2];rfl)))⟩
       ·exact⟨rfl,Nat.le_refl _,fun c _=>Bt (ml (hn1 (by unfold fX;rw[c3];rfl)))⟩
       ·omega
       ·omega
      ·refine(aO (k+1) (toS [0,1,2,3] 5 (hob:=⟨⟨rfl,Nat.le_refl _,fun j hj=>match j,hj with|0,_=>(Bs _)|1,_=>(Bs _) ⟩,⟨rfl,Nat.le_refl _,fun j hj=>match j,hj with|0,_=>(Bs _) ⟩,?_,?_,trivial⟩)) ?_ ?_)
       ·exact⟨rfl,Nat.le_refl _,fun c _=>Bt (ml (hs1 (by unfold fW;rw[c2];rfl)))⟩
       ·rw[hn2 (by unfold fX;rw[c3];rfl)]
        exact Bv _
       ·omega
       ·omega
      ·have:=hrk.1.2 _ (by assumption)
       omega
      ·refine(aO (k+1) (toS [0,1,2,3] 5 (hob:=⟨⟨rfl,Nat.le_refl _,fun j hj=>match j,hj with|0,_=>(Bs _)|1,_=>(Bs _) ⟩,⟨rfl,Nat.le_refl _,fun j hj=>match j,hj with|0,_=>(Bs _) ⟩,?_,?_,trivial⟩)) ?_ ?_)
       ·rw[hs2 (by unfold fW;rw[c2];rfl)]
        exact Bv _
       ·exact⟨rfl,Nat.le_refl _,fun c _=>Bt (ml (hn1 (by unfold fX;rw[c3];rfl)))⟩
       ·omega
       ·omega
      ·refine(aO (k+1) (toS [0,1,2,3] 5 (hob:=⟨⟨rfl,Nat.le_refl _,fun j hj=>match j,hj with|0,_=>(Bs _)|1,_=>(Bs _) ⟩,⟨rfl,Nat.le_refl _,fun j hj=>match j,hj with|0,_=>(Bs _) ⟩,?_,?_,trivial⟩)) ?_ ?_)
       ·rw[hs2 (by unfold fW;rw[c2];rfl)]
        exact Bv _
       ·rw[hn2 (by unfold fX;rw[c3];rfl)]
        exact Bv _
       ·omega
       ·omega
      all_goals (exfalso;omega)
     ·have hke:k=p.rules.l.length:=by omega
      subst hke
      have hkl:decide ((p.rules.l.length:Int)<(p.rules.l.length:Int))=false:=decide_eq_false omg
      rw[List.take_length]
      refine vcR [[1,1,1,1,1,1,1,1,1,0,1,0,0,1,0,0]] (lkL [(25,[1,4,13,14,115,116,117,118])]) (fun _=>[]) (fun Q=>(fun (u1:Int)=>(fun (u2:St R.σ)=>(decide (u1<u1)=true->WpC Tryd.prog R 189 0 12 [1,1,1,1,1,1,1,1,1,0,1,0,0,1,0,0] Q [Kont.seq [1,1,1,1,1,1,1,1,1,0,1,0,0,1,1]] u2)/\(decide (u1<u1)=false->Q (AEx.exit 4) u2)) (St.mk [(1,ref 0 0),(4,ref 1 0),(13,ow true 2 n 1),(14,ow true 3 n 1),(115,ad p.rules),(116,i6 u1),(117,i6 u1),(118,AV.bool (decide (u1<u1)))] [cO 2 (nth [i6 p.atoms,ad p.rules]),cO 1 fun x=>fz V.2 1 (List.length V.l) fun i x=>af V.l i,cO (n*1) fun a=>AV.bool (cz V.l p.rules.l a),cO (n*1) fun a=>AV.bool (cA V.l p.rules.l a)] g)) ((↑(List.length p.rules.l):Int))) ⟨fun hcc=>(nomatch (hkl.symm.trans hcc)),fun _=>?_⟩
      refine⟨_,BE _,vcR [] (lkL [(32,[1,4,13,14,17,18]),(33,[1,13,14,17,18,140,141,142])]) (fun _=>[]) (fun Q=>(fun (u1:AV)=>1<=1/\WpC Tryd.prog R 189 0 12 [1,1,1,1,1,1,1,1,1,1,1,0,1,0] Q [Kont.blk 6,Kont.seq [1,1,1,1,1,1,1,1,1,1,1,1]] (St.mk [(1,ref 0 0),(13,ow true 2 n 1),(14,ow true 3 n 1),(17,fz Fz.nil 0 0 fun x x_1=>any),(18,fz Fz.nil 0 0 fun x x_1=>any),(140,u1),(141,i6 (↑(List.length V.l):Int)),(142,i6 0)] [cO 2 (nth [i6 p.atoms,ad p.rules]),cO 1 fun x=>u1,cO (n*1) fun a=>AV.bool (cz V.l p.rules.l a),cO (n*1) fun a=>AV.bool (cA V.l p.rules.l a)] g)) (fz V.2 1 (List.length V.l) fun i x=>af V.l i)) ⟨omg,?_⟩⟩
      refine b9 (gq (fun _=>.any) 2) ?_
      refine(a9 krf (fun (a:Nat)=>⟨[(1,ref 0 0),(13,ow true 2 n 1),(14,ow true 3 n 1),(17,.ow true 4 a 1),(18,.ow true 5 a 1),(140,fz V.2 1 (V.l.length) fun (i x:Nat)=>af V.l i),(141,i6 (V.l.length:Int)),(142,.int .i64 a)],[cO 2 (nth [.int .i64 p.atoms,ad p.rules]),cO 1 (fun _=>ah V),cO (n*1) (dk (cz V.l p.rules.l)),cO (n*1) (dk (cA V.l p.rules.l)),cO (a*1) (dk fun j=>v j==2),cO (a*1) (dk fun j=>v j != 1)],g⟩) (fun (a:Nat)=>(a<=n)) (fun (a:Nat)=>(n-a)) 0 (toL (h1:=⟨Bs _,Bs _,Bs _,Le.nil_ow,Le.nil_ow,Bs _,Bs _,(Bt krf),trivial⟩) (h2:=⟨Bu,Bu,Bu,Bu,⟨rfl,Nat.le_refl _,fun j hj=>absurd hj (Nat.not_lt_zero j)⟩,⟨rfl,Nat.le_refl _,fun j hj=>absurd hj (Nat.not_lt_zero j)⟩,trivial⟩)) ?_ (fun a hi=>?_))
      ·exact Nat.zero_le _
      ·rcases Nat.lt_or_ge a n with ha|ha
       ·have hva:=hVg a ha
        have hso:cz V.l p.rules.l a=(v a==2):=by
         rw[Bool.eq_iff_iff,beq_iff_eq,tG hfin]
         unfold cz
         rw[List.any_eq_true]
         constructor
         ·rintro ⟨r,hr1,h⟩
          rw[Bool.and_eq_true,decide_eq_true_eq] at h
          rw[(mn hVg hfin.dom (fun l hl=>by have:=(hrn r hr1).1.2 l hl;omega)).1] at h
          exact⟨r,hr1,h⟩
         ·rintro ⟨r,hr1,h1,h2⟩
          refine⟨r,hr1,?_⟩
          rw[Bool.and_eq_true,decide_eq_true_eq,(mn hVg hfin.dom (fun l hl=>by have:=(hrn r hr1).1.2 l hl;omega)).1]
          exact⟨h1,h2⟩
        have hno:cA V.l p.rules.l a=(v a==1):=by
         rw[Bool.eq_iff_iff,beq_iff_eq,AE hfin omg]
         unfold cA
         rw[Bool.not_eq_true',List.any_eq_false]
         constructor
         ·intro h r hr1 h1
          have h2:=h r hr1
          rw[Bool.and_eq_true,decide_eq_true_eq,(mn hVg hfin.dom (fun l hl=>by have:=(hrn r hr1).1.2 l hl;omega)).2] at h2
          by_cases hh:∃l,l∈r.body.l/\bh v l=1
          ·exact hh
          ·exact absurd ⟨h1,fun l hl e=>hh ⟨l,hl,e⟩⟩ h2
         ·intro h r hr1 h2
          rw[Bool.and_eq_true,decide_eq_true_eq,(mn hVg hfin.dom (fun l hl=>by have:=(hrn r hr1).1.2 l hl;omega)).2] at h2
          obtain⟨l,hl,e⟩:=h r hr1 h2.1
          exact h2.2 l hl e
        refine vcR [] (lkL [(34,[1,13,14,17,18,140,141,142,143]),(35,[1,13,14,17,18,19,20,140,141,142]),(36,[1,13,14,17,18,20,140,141,142,162]),(37,[2]),(38,[1,13,14,17,18,140,141,142]),(39,[1,13,14,17,18,140,141,142])]) (fun _=>[]) (fun Q=>(fun (u1:List AObj)=>(fun (u2:Int)=>(fun (u3:Int)=>(fun (u4:Bool)=>(fun (u5:AV)=>(fun (u6:Int)=>(fun (u7:Bool)=>(decide (u3<u2)=true->(0<=u3/\u3<u2)/\1<=1/\(0<=u3/\u3<(↑n:Int))/\a+1<=n*1/\((!u4)=true->0<=u3/\u3<(↑n:Int))/\((!u4)=true->a+1<=n*1)/\(u7=true->Q AEx.ret (St.mk [(2,AV.bool false)] u1 g))/\(u7=false->0<1/\(a+1)*1<=aC/\a+1<=aC/\1<=1/\a*1<=a*1/\0<1/\(a+1)*1<=aC/\a+1<=aC/\1<=1/\a*1<=a*1/\(-9223372036854775808<=u3+1/\u3+1<=9223372036854775807)/\Q AEx.normal (St.mk [(1,ref 0 0),(13,ow true 2 n 1),(14,ow true 3 n 1),(17,ow true 7 (a+1) 1),(18,ow true 9 (a+1) 1),(140,u5),(141,i6 u2),(142,i6 (u3+1))] [cO 2 (nth [i6 p.atoms,ad p.rules]),cO 1 fun x=>u5,cO (n*1) fun a=>AV.bool (cz V.l p.rules.l a),cO (n*1) fun a=>AV.bool (cA V.l p.rules.l a),dead,dead,cO 1 (al (fun (j:Nat)=>AV.bool false) 0 1 fun x=>AV.bool (u6==2)),cO ((a+1)*1) (aZ 1 a (fun (i j:Nat)=>AV.bool (v (i*1+j)==2)) fun i j=>al (fun (j:Nat)=>AV.bool false) 0 1 (fun (x:Nat)=>AV.bool (u6==2)) (0+i*1+j)),cO 1 (al (fun (j:Nat)=>AV.bool false) 0 1 fun x=>AV.bool (u6 != 1)),cO ((a+1)*1) (aZ 1 a (fun (i j:Nat)=>AV.bool (v (i*1+j) != 1)) fun i j=>al (fun (j:Nat)=>AV.bool false) 0 1 (fun (x:Nat)=>AV.bool (u6 != 1)) (0+i*1+j))] g)))/\(decide (u3<u2)=false->Q (AEx.exit 6) (St.mk [(1,ref 0 0),(13,ow true 2 n 1),(14,ow true 3 n 1),(17,ow true 4 a 1),(18,ow true 5 a 1),(140,u5),(141,i6 u2),(142,i6 u3),(143,AV.bool (decide (u3<u2)))] u1 g))) (bif u4 then true else !cA V.l p.rules.l a==(u6==1))) (List.getD V.l a 0)) (fz V.2 1 (List.length V.l) fun i x=>af V.l i)) (!cz V.l p.rules.l a==(List.getD V.l a 0==2))) ((↑a:Int))) ((↑(List.length V.l):Int))) ([cO 2 (nth [i6 p.atoms,ad p.rules]),cO 1 fun x=>fz V.2 1 (List.length V.l) fun i x=>af V.l i,cO (n*1) fun a=>AV.bool (cz V.l p.rules.l a),cO (n*1) fun a=>AV.bool (cA V.l p.rules.l a),cO (a*1) fun a=>AV.bool (v a==2),cO (a*1) fun a=>AV.bool (v a != 1)])) ⟨fun c1=>have c1:(↑a:Int)<(↑(List.length V.l):Int):=(of_decide_eq_true c1);⟨omg,omg,omg,omg,omg,omg,fun c2=>have c2:(cz V.l p.rules.l a==(List.getD V.l a 0==2))=false∨(cA V.l p.rules.l a==(List.getD V.l a 0==1))=false:=((eq c2).imp (fun h=>((Bool.not_eq_true' _).mp h)) (fun h=>((Bool.not_eq_true' _).mp h)));?_,fun c2=>have c2:(cz V.l p.rules.l a==(List.getD V.l a 0==2))=true/\(cA V.l p.rules.l a==(List.getD V.l a 0==1))=true:=⟨((Bool.not_eq_false' _).mp (bY c2).1),((Bool.not_eq_false' _).mp (bY c2).2)⟩;⟨omg,omg,omg,omg,omg,omg,omg,omg,omg,omg,omg,?_⟩⟩,fun c1=>have c1:¬(↑a:Int)<(↑(List.length V.l):Int):=(of_decide_eq_false c1);?_⟩
        ·exfalso
         rw[hva,hso,hno] at c2
         simp at c2
        ·have hb2:AV.bool (V.l.getD a 0==2)=AV.bool (v a==2):=by rw[hva]
         have hb1:AV.bool (V.l.getD a 0 != 1)=AV.bool (v a != 1):=by rw[hva]
         refine(aO (a+1) (toS [0,1,2,3,7,9] 10 (hob:=⟨⟨rfl,Nat.le_refl _,fun j hj=>match j,hj with|0,_=>(Bs _)|1,_=>(Bs _) ⟩,⟨rfl,Nat.le_refl _,fun j hj=>match j,hj with|0,_=>(Bs _) ⟩,?_,?_,?_,?_,trivial⟩)) ?_ ?_)
         ·exact Bv _
         ·exact Bv _
         ·refine⟨rfl,Nat.le_refl _,fun c hc=>Bt ?_⟩
          refine Eq.trans ?_ (oW (f:=dk fun j=>v j==2) (z:=fun _=>.bool false) hc).symm
          show aZ 1 a _ _ c=aZ 1 a _ _ c
          unfold dk
          rw[<-hb2]
         ·refine⟨rfl,Nat.le_refl _,fun c hc=>Bt ?_⟩
          refine Eq.trans ?_ (oW (f:=dk fun j=>v j != 1) (z:=fun _=>.bool false) hc).symm
          show aZ 1 a _ _ c=aZ 1 a _ _ c
          unfold dk
          rw[<-hb1]
         ·omega
         ·omega
        ·exfalso;omega
       ·have hae:a=n:=by omega
        subst hae
        have hal:decide ((a:Int)<(V.l.length:Int))=false:=decide_eq_false omg
        obtain⟨bi,hbi⟩:∃b:List Bool,b=(List.range a).map fun j=>v j==2:=⟨_,rfl⟩
        obtain⟨bc,hbc⟩:∃b:List Bool,b=(List.range a).map fun j=>v j != 1:=⟨_,rfl⟩
        have hil:bi.length=a:=by rw[hbi];simp
        have hcl:bc.length=a:=by rw[hbc];simp
        have hig:∀j,j<a->bi.getD j false=(v j==2):=fun j hj=>by rw[hbi,List.getD_eq_getElem?_getD,List.getElem?_map,List.getElem?_range hj];rfl
        have hcg:∀j,j<a->bc.getD j false=(v j != 1):=fun j hj=>by rw[hbc,List.getD_eq_getElem?_getD,List.getElem?_map,List.getElem?_range hj];rfl
        refine b9 (nQ 2 [(1,.ref 0 0),(17,eB bi),(18,eB bc),(140,ah V),(141,.int .i64 V.l.length),(142,.int .i64 a)] [cO 2 (nth [.int .i64 p.atoms,ad p.rules]),cO 1 (fun _=>ah V)] (Nat.zero_le _) (by show 2<=6;omega) rfl (fun i hi=>match i,hi with
         |0,_=>⟨rfl,rfl,fun j hj=>match j,hj with|0,_=>Bz trivial|1,_=>Bz trivial⟩
         |1,_=>⟨rfl,rfl,fun j hj=>Bz trivial⟩) ⟨Bz (show 0<2 by omega),tR (o:=4) hil hig rfl omg,tR (o:=5) hcl hcg rfl omg,Bz trivial,Bz trivial,Bz trivial,trivial⟩) ?_
        have hF1:=fun (R:Res) (g:R.σ)=>tv R p bc a omg hcl hpa hl hrn g
        have hF2:=fun (R:Res) (g:R.σ)=>tv R p bi a omg hil hpa hl hrn g
        have hD1:fq (foR p bc a) bi a=false:=by
         unfold fq
         rw[List.any_eq_false]
         intro j hj
         have h:=tH hfin hn hrn hcg j
         rw[hig j (List.mem_range.1 hj)]
         cases h1:(foR p bc a).getD j false <;> rw[h1] at h <;> simp at h ⊢ <;> exact h
        have hD2:fq (foR p bi a) bc a=false:=by
         unfold fq
         rw[List.any_eq_false]
         intro j hj
         have h:=AF hfin hn hrn hig j (List.mem_range.1 hj)
         rw[hcg j (List.mem_range.1 hj)]
         cases h1:(foR p bi a).getD j false <;> rw[h1] at h <;> simp at h ⊢ <;> exact h
        have hS1:=fun (R:Res) (g:R.σ)=>tU R (foR p bc a) bi a (tD fun r hr=>by have:=(hrn r hr).2;omega) hil omg g
        have hS2:=fun (R:Res) (g:R.σ)=>tU R (foR p bi a) bc a (tD fun r hr=>by have:=(hrn r hr).2;omega) hcl omg g
        simp only[hD1] at hS1
        simp only[hD2] at hS2
        refine vcR [[1,1,1,1,1,1,1,1,1,1,1,0,1,0,0,1,0,0]] (lkL [(34,[1,13,14,17,18,140,141,142,143])]) (fun _=>[]) (fun Q=>(fun (u1:St R.σ)=>(fun (u2:Int)=>(decide ((↑a:Int)<u2)=true->WpC Tryd.prog R 189 0 12 [1,1,1,1,1,1,1,1,1,1,1,0,1,0,0,1,0,0] Q [Kont.seq [1,1,1,1,1,1,1,1,1,1,1,0,1,0,0,1,1]] u1)/\(decide ((↑a:Int)<u2)=false->Q (AEx.exit 6) u1)) ((↑(List.length V.l):Int))) (St.mk [(1,ref 0 0),(13,any),(14,any),(17,fz Fz.auto 1 (List.length bi) fun i x=>aI bi i),(18,fz Fz.auto 1 (List.length bc) fun i x=>aI bc i),(140,fz V.2 1 (List.length V.l) fun i x=>af V.l i),(141,i6 (↑(List.length V.l):Int)),(142,i6 (↑a:Int)),(143,AV.bool (decide ((↑a:Int)<(↑(List.length V.l):Int))))] [cO 2 (nth [i6 p.atoms,ad p.rules]),cO 1 fun x=>fz V.2 1 (List.length V.l) fun i x=>af V.l i] g)) ⟨fun hcc=>(nomatch (hal.symm.trans hcc)),fun _=>?_⟩
        refine⟨_,BE _,vcR [] (lkL [(40,[2])]) (lkL [(40,[(2,ROrc.call (ow true 2 a 1) [cO 2 (nth [i6 p.atoms,ad p.rules]),cO 1 fun (x:Nat)=>fz V.2 1 (List.length V.l) fun (i x:Nat)=>af V.l i,cO (a*1) (aI (foR p bc a))] g),(4,ROrc.kcall (AV.bool true)),(8,ROrc.call (ow true 3 a 1) [cO 2 (nth [i6 p.atoms,ad p.rules]),cO 1 fun (x:Nat)=>fz V.2 1 (List.length V.l) fun (i x:Nat)=>af V.l i,cO (a*1) fun (a_1:Nat)=>aI (foR p bc a) a_1,cO (a*1) (aI (foR p bi a))] g),(10,ROrc.kcall (AV.bool true)),(13,ROrc.kcall (AV.bool true))])]) (fun Q=>(fun (u1:List AObj)=>(fun (u2:List AObj)=>(fun (u3:AV)=>(fun (u4:AV)=>2<=2/\(true=true/\Does Tryd.prog R 38 [av p,u3] [cO 2 (nth [i6 p.atoms,ad p.rules]),cO 1 fun x=>fz V.2 1 (List.length V.l) fun i x=>af V.l i] g (ret (ow true 2 a 1)) u2 g)/\(true=true/\Does Tryd.prog R 37 [ow true 2 a 1,u4] u2 g (ret (AV.bool true)) u2 g)/\(true=true->2<=2)/\(true=true->true=true/\Does Tryd.prog R 38 [av p,u4] u2 g (ret (ow true 3 a 1)) u1 g)/\(true=true->true=true/\Does Tryd.prog R 37 [ow true 3 a 1,u3] u1 g (ret (AV.bool true)) u1 g)/\(true=true->true=true/\Does Tryd.prog R 15 [] u1 g (ret (AV.bool true)) u1 g)/\Q AEx.ret (St.mk [(2,AV.bool true)] u1 g)) (fz Fz.auto 1 (List.length bi) fun i x=>aI bi i)) (fz Fz.auto 1 (List.length bc) fun i x=>aI bc i)) ([cO 2 (nth [i6 p.atoms,ad p.rules]),cO 1 fun x=>fz V.2 1 (List.length V.l) fun i x=>af V.l i,cO (a*1) fun a_1=>aI (foR p bc a) a_1])) ([cO 2 (nth [i6 p.atoms,ad p.rules]),cO 1 fun x=>fz V.2 1 (List.length V.l) fun i x=>af V.l i,cO (a*1) fun a_1=>aI (foR p bc a) a_1,cO (a*1) fun a_1=>aI (foR p bi a) a_1])) ⟨omg,⟨rfl,(doT (T:=LT) [] 2 (fun R _ g=>hF1 R g))⟩,⟨rfl,(doT (T:=LT) [2] 3 (fun R _ g=>hS1 R g))⟩,omg,(fun hgd=>⟨rfl,(doT (T:=LT) [] 3 (fun R _ g=>hF2 R g))⟩),(fun hgd=>⟨rfl,(doT (T:=LT) [3] 4 (fun R _ g=>hS2 R g))⟩),(fun hgd=>⟨rfl,(doT (T:=LT) [] 4 (fun R _ g=>tj R g))⟩),?_⟩⟩
        all_goals try refine(aq (bw _ _ rfl trivial trivial rfl) (Bs _))
end Go.Avm.Pack
namespace Go.Proofs.YtbdagmhndndliaaDoor
open Go Go.Avm Go.Avm.Pack Go.WideShapes Go.ChangeShapes Go.ChangeAt
def Bk (cs:Array Value):Obj->Obj
 |.cells _ t frozen=>.cells cs t frozen
 |o=>o
noncomputable def pf (os:Os):World:=
 { World.holding Tryd.prog os ⟨#[],#[],[]⟩ with heap:=(World.holding Tryd.prog os ⟨#[],#[],[]⟩).heap.modify 0 (Bk #[.int .u8 0,.int .u8 1,.int .u8 56,.int .u8 2,.int .u8 57,.int .u8 49,.int .u8 28,.int .u8 3,.int .u8 61,.int .u8 58,.int .u8 42,.int .u8 50,.int .u8 38,.int .u8 29,.int .u8 17,.int .u8 4,.int .u8 62,.int .u8 47,.int .u8 59,.int .u8 36,.int .u8 45,.int .u8 43,.int .u8 51,.int .u8 22,.int .u8 53,.int .u8 39,.int .u8 33,.int .u8 30,.int .u8 24,.int .u8 18,.int .u8 12,.int .u8 5,.int .u8 63,.int .u8 55,.int .u8 48,.int .u8 27,.int .u8 60,.int .u8 41,.int .u8 37,.int .u8 16,.int .u8 46,.int .u8 35,.int .u8 44,.int .u8 21,.int .u8 52,.int .u8 32,.int .u8 23,.int .u8 11,.int .u8 54,.int .u8 26,.int .u8 40,.int .u8 15,.int .u8 34,.int .u8 20,.int .u8 31,.int .u8 10,.int .u8 25,.int .u8 14,.int .u8 19,.int .u8 9,.int .u8 13,.int .u8 8,.int .u8 7,.int .u8 6]) }
theorem Bl (os:Os):laidMet Tryd.prog Rows.tableSoundRow.laid ((pf os).forCall (fun _ _=>0) ⟨#[],#[.agg #[.int .i64 0,.slice none 0 0]],[]⟩).memory:=
 laidMet_of_run' 8 (by kernel_rfl) (by kernel_rfl)
theorem Bm (os:Os){H:Type}(enc:TypeId × Value->H):∃places,DataW.whole enc Tryd.prog ((pf os).forCall (fun _ _=>0) ⟨#[],#[.agg #[.int .i64 0,.slice none 0 0]],[]⟩).memory Tryd.f12.params.toList Rows.tableSoundSpec.vars false (#[.agg #[.int .i64 0,.slice none 0 0]]:Array Value).toList 8=some ([.agg [.lit (.int .i64 0),.nil]],[],places):=
 ⟨[],by kernel_rfl⟩
theorem Bn (W:World)(h:laidMetH Tryd.prog Rows.tableSoundRow.laid W):cR gsT (dF W):=by
 have h:laidMet Tryd.prog [("math/bits.deBruijn64tab",Lib.tabData .u8 gQ)] W:=h
 exact wv (t:=164) (e:=5) (n:=64) (by kernel_rfl) (by kernel_rfl) Tryd.underlying164 Tryd.underlying5 (by kernel_rfl) (by kernel_rfl) h (fun _=>wu)
set_option maxRecDepth 100000 in
theorem Bo (os:Os)(started:os.Started)(H:Type)(enc:TypeId × Value->H)(F:Stop.Interp) :
  ReturnsInHanded {} Tryd.checked os 12 .any ((OpenSpec.ofChange Rows.tableSoundSpec).preRow enc Tryd.prog Tryd.f12 Rows.tableSoundRow.domain Rows.tableSoundRow.apart Rows.tableSoundRow.laid) (((OpenSpec.ofChange Rows.tableSoundSpec).at F).post enc Tryd.prog Tryd.f12 Rows.tableSoundRow.apart Rows.tableSoundRow.fresh Rows.tableSoundRow.handsOn Rows.tableSoundRow.again):=by
 obtain⟨places,hx⟩:=Bm os enc
 exact ww (C:=Tryd.checked) (s:=Rows.tableSoundSpec) (tb:=4) (gs:=gsT) (X:=fun l=>∃a:Prg,True/\∃l',(l'=[])/\l=av a::l') (by kernel_rfl) started (by kernel_rfl) Tryd.func12
  (witness_row_at (enc:=enc) (C:=Tryd.checked) false (pf os) #[.agg #[.int .i64 0,.slice none 0 0]] rfl (by kernel_rfl) (by kernel_rfl) (by kernel_rfl)
   (OpenSpec.preRow_of_cond 8 hx (by kernel_rfl) (fun k hk=>by cases hk) (by kernel_rfl) (Bl os)))
  rfl (fun ds h=>by
   match ds,h with
   |[_],_=>rfl) (by kernel_rfl)
  (fun t ht=>by
   have ht:t∈([24]:List Nat):=ht
   simp only[List.mem_cons,List.not_mem_nil,or_false] at ht
   subst ht;exact⟨by kernel_rfl,of_decide_eq_true (by kernel_rfl)⟩) rfl Tryd.underlying4 Bn
  ((wn Ax wm))
  (fun avs ⟨a,ha,_,e0,e1⟩=>by
   subst e0 e1
   exact Bj (Res.tab gsT) a ())
theorem Bp:Rows.TableSoundSaid:=
 OpenClaim.holds_of_cond 12 Tryd.f12 rfl rfl rfl rfl rfl rfl rfl ⟨rfl,rfl,rfl,rfl,rfl⟩ rfl rfl rfl rfl rfl (by kernel_rfl) Tryd.func12 (by kernel_rfl)
  (of_decide_eq_true (by kernel_rfl)) (by unfold Func.isWrapper;first|(rw[if_pos (by decide +kernel)];kernel_rfl)|(rw[if_neg (by decide +kernel)];exact⟨rfl,rfl⟩))
  (fun os started H enc _ F=>by rw[OpenClaim.pre_eq_preRow];exact Bo os started H enc F)
theorem Bq (f:FuncId)(fn:Func)(hf:Tryd.pinned.checked.prog.funcNamed "swingle/swinglelaw18.TableSound"=some f)(hfn:Tryd.pinned.checked.prog.funcs[f]? = some fn) :
  true=Tryd.pinned.checked.prog.looks []/\∀(j:Nat) t,fn.params[j]? = some t->Tryd.pinned.checked.prog.wantsStandIn t=false:=by
 obtain rfl:f=12:=Option.some.inj ((show Tryd.prog.funcNamed "swingle/swinglelaw18.TableSound"=some 12 by kernel_rfl).symm.trans hf) |>.symm
 obtain rfl:fn=Tryd.f12:=(Option.some.inj (Tryd.func12.symm.trans hfn)).symm
 refine⟨by kernel_rfl,fun j t ht=>?_⟩
 have hm:t∈(Tryd.f12.params).toList:=Array.mem_toList_iff.2 (Array.mem_of_getElem? ht)
 have hm:t∈([24]:List Nat):=hm
 simp only[List.mem_cons,List.not_mem_nil,or_false] at hm
 subst hm
 exact(show Tryd.prog.wantsStandIn 24=false by kernel_rfl)
theorem tableSound_holds:Rows.TableSoundCardSaid:=
 Claim7.holds_tied_plain_at .later [] _ _ _ _ Bp (fun _ h=>by cases h) (by kernel_rfl) (fun _ h=>by cases h) tableSound_row_tie rfl ⟨rfl,rfl⟩ (by kernel_rfl) rfl Bq (by kernel_rfl)
#print axioms tableSound_holds
end Go.Proofs.YtbdagmhndndliaaDoor
