/- Part 5 of the proof: lemmas. -/
import Derived.Test.YtbdagmhndndliaaDoorM4
namespace Go.Avm.Pack
open Go Go.Avm Go.Proofs
open Go.IntKind (i64 u64)
open Go.Avm.AV (int bool any fz fp sl ow ref fn ifc val agg tup)
open Go.Avm.AObj (cells dead)
open Go.Avm.Oc (ret)
set_option maxRecDepth 4000
section
variable {R:Res}
def sY (P:Program)(R:Res)(nt l:Nat)(b:Code)(q:List Nat)(pok:Prop)(Q:AEx->St R.σ->Prop):AEx->St R.σ->Prop
 |.normal,s=>Wp P R nt s.hp.length (.inr l) b q (jQ pok Q) s
 |_,_=>False
theorem sZ [Tab LT R]{nt k0:Nat}{b:Code}{p:List Nat}{Q:AEx->St R.σ->Prop}{s:St R.σ}(t:Nat)(psl:List Nat)(m:Nat)(hrl:ix t psl (sub b p)=true){fa fb:Nat->AV}(hf:lk s.fr t=.fn 105 0 fa 1 fb)(hfb:fb 0=.ref m 0)
  (S K:Nat) (hS:S<2^24) (H:List AObj) (h0:To R k0 s ⟨s.fr,H++[cO 1 (fun _=>.int .u64 S)],s.g⟩) (hl:H.length=m)
  (hlive:dE (H++[cO 1 (fun _=>.int .u64 S)])) (hBO:e7 m H) (hlen:1=psl.length) (hlt:bF psl nt=true) (ts:List Nat) (hBf:f6 ts (fun t=>Below m (lk s.fr t)))
  (hround:∀k l,k<K->k<(ak S).length->Wp Tryd.prog R nt m (.inr l) b (p++[0]) (nE Tryd.prog R nt m l b (p++[1]) none H s.g) ⟨cP psl [.int .i64 (((ak S).getD k 0:Nat):Int)] (dP ts s.fr),H,s.g⟩)
  (hlast:K<(ak S).length->∀pok l,Wp Tryd.prog R nt (m+1) (.inr l) b (p++[0]) (sY Tryd.prog R nt l b (p++[1]) pok (fun e s3=>Q e ⟨s.fr,s3.hp,s3.g⟩)) ⟨cP psl [.int .i64 (((ak S).getD K 0:Nat):Int)] s.fr,H++[.dead],s.g⟩)
  (hdone:(ak S).length<=K->Q .normal ⟨s.fr,H++[.dead],s.g⟩) :
  Wp Tryd.prog R nt k0 .top b p Q s:=by
 obtain⟨ps,assign,body,hc,rfl⟩:∃ps assign body,sub b p=.rangeFunc (.tmp t) ps assign body/\ps.toList=psl:=by
  unfold ix at hrl
  split at hrl
  ·rename_i u ps assign body hs
   simp only[Bool.and_eq_true] at hrl
   have:=Nat.eq_of_beq_eq_true hrl.1
   subst this
   exact⟨ps,assign,body,hs,jF hrl.2⟩
  ·cases hrl
 have e0:sub b (p++[0])=assign:=by rw[co,hc];exact cS assign
 have e1:sub b (p++[1])=body:=by rw[co,hc];exact cS body
 refine⟨?_⟩
 rw[hc]
 refine kQ h0 (zr (s:=⟨s.fr,H++[cO 1 (fun _=>.int .u64 S)],s.g⟩) (K:=K) hf hfb hS rfl hl hlive hBO hlen hlt ts hBf (fun k hk hkN l=>?_) (fun hK pok l=>?_) hdone)
 ·have h1:=(hround k l hk hkN).h
  rw[e0] at h1
  rw[show(St.hp ⟨cP ps.toList [.int .i64 (((ak S).getD k 0:Nat):Int)] (dP ts s.fr),H,s.g⟩).length=m from hl]
  refine ii h1 (fun e s' hq=>?_)
  cases e with
  |normal=>
   have h2:=(show Wp _ _ _ _ _ _ _ _ _ from hq).h
   rw[e1] at h2
   exact⟨rfl,h2⟩
  |exit id=>exact hq.elim
  |ret=>exact hq.elim
  |pan v=>exact hq.elim
 ·have h1:=(hlast hK pok l).h
  rw[e0] at h1
  refine ii h1 (fun e s' hq=>?_)
  cases e with
  |normal=>
   have h2:=(show Wp _ _ _ _ _ _ _ _ _ from hq).h
   rw[e1] at h2
   exact⟨rfl,h2⟩
  |exit id=>exact hq.elim
  |ret=>exact hq.elim
  |pan v=>exact hq.elim
end
def aM (l:List Nat):Nat->AV:=fun k=>ah (ai (l.getD k 0))
theorem fF {k:Nat}(l:List Nat)(j:Nat):Below k (aM l j):=trivial
theorem gL {f:Nat->Nat}(h:True){l:List Nat}{j:Nat}:aI f (aM l j)=aM l j:=rfl
theorem l5 {p:Prg}{left a:Nat}(hg:hgP p a<2^24)(hl:left<2^24):(IntKind.u64.wrap ((BitVec.ofInt 64 (IntKind.u64.wrap ((BitVec.ofInt 64 (hgP p a:Int)&&&BitVec.ofInt 64 (left:Int)).toNat:Int)) &&& ~~~ BitVec.ofInt 64 (ay p a:Int)).toNat:Int)==0)=eL p left a:=by
 rw[Tb.u64_and (bG hg) (bG hl),oG (Nat.lt_of_le_of_lt Nat.and_le_right hl)]
 unfold eL
 rw[Bool.eq_iff_iff,beq_iff_eq,beq_iff_eq]
 omega
theorem l6 {p:Prg}(hr:∀r,r∈p.rules.l->aE r)(hx:∀r,r∈p.rules.l->∀l,l∈r.body.l->0<=l.atom/\l.atom<p.atoms){a c:Nat}(ha:a<24)(han:(a:Int)<p.atoms)(hc:c∈ak (hgP p a)):(c:Int)<p.atoms:=by
 obtain⟨m1,m2⟩:=Tb.mem_memN.1 hc
 rcases sB hx ((dj hr ha).1 m2) with rfl|h
 ·exact han
 ·exact h
theorem l7 {L:List Nat}{w m c:Nat}{z:Nat->AV}{old:Nat->Nat->AV}(hm:m=L.length)(hold:∀i,i<m->old i 0=aM L i)(hc:c<(m+1)*1):aM (L++[w]) c=bb 1 m old (fun i j=>ao z 0 1 (fun _=>ah (ai w)) (0+i*1+j)) c:=by
 unfold bb aM
 rw[List.getD_eq_getElem?_getD]
 by_cases h:c<m*1
 ·rw[if_pos h,show c/1=c by omega,show c%1=0 by omega,hold c omg,List.getElem?_append_left omg,<-List.getD_eq_getElem?_getD]
  rfl
 ·rw[if_neg h,List.getElem?_append_right omg,show c-L.length=0 by omega]
  show _=ao z 0 1 _ (0+(c-m*1)/1*1+(c-m*1)%1)
  rw[eD,if_pos omg]
  rfl
theorem Le.ow_nil {get:Nat->Nat->AV}{s o es:Nat}:Le (.ow true o 0 es) (.fz .nil s 0 get):=by
 intro FM Z v h
 obtain⟨a,rfl,ha⟩:=h.1 rfl
 obtain rfl:=ha rfl
 exact⟨fun _=>⟨rfl,none,0,rfl,rfl,rfl⟩,fun h=>(by cases h)⟩
theorem zt {f z:Nat->AV}{a c:Nat}(hc:c<(a+1)*1):f c=bb 1 a (fun i j=>f (i*1+j)) (fun i j=>ao z 0 1 (fun _=>f a) (0+i*1+j)) c:=by
 unfold bb
 by_cases h:c<a*1
 ·rw[if_pos h]
  show f c=f (c/1*1+c%1)
  rw[show c/1*1+c%1=c by omega]
 ·rw[if_neg h]
  show f c=ao z 0 1 _ (0+(c-a*1)/1*1+(c-a*1)%1)
  rw[eD,if_pos omg,show c=a by omega]
structure OrdOk (p:Prg)(x:Nat × List Nat × Nat):Prop where
 num:x.1=x.2.1.length
 few:x.1+(ak x.2.2).length<=24
 lt:x.2.2<2^24
 at_:∀a,a∈ak x.2.2->a<p.atoms.toNat
 ord:∃f,(ak x.2.2).length<f/\x.2.1++kc p f x.2.2=cA p
theorem zu {p:Prg}(hr:∀r,r∈p.rules.l->aE r){m left:Nat}{L:List Nat}(h:OrdOk p (m,L,left))(h0:left≠0):OrdOk p (m+1,L++[ay p (dR p left)],dH left (ay p (dR p left)))/\(ak (dH left (ay p (dR p left)))).length<(ak left).length:=by
 obtain⟨o1,o2,o3,o4,f,f1,f2⟩:=h
 simp only at o1 o2 o3 o4 f1 f2
 have hlt:=yH hr o3 h0
 obtain⟨f,rfl⟩:∃k,f=k+1:=⟨f-1,omg⟩
 refine⟨⟨?_,?_,Nat.lt_of_le_of_lt sC o3,fun a ha=>o4 a ?_,f,?_,?_⟩,hlt⟩
 ·show m+1=(L++[_]).length
  rw[List.length_append,o1]
  rfl
 ·show m+1+(ak (dH left (ay p (dR p left)))).length<=24
  omega
 ·obtain⟨m1,m2⟩:=Tb.mem_memN.1 ha
  have m2:(dH left (ay p (dR p left))).testBit a=true:=m2
  rw[kb o3,Bool.and_eq_true] at m2
  exact Tb.mem_memN.2 ⟨m1,m2.1⟩
 ·show(ak (dH left _)).length<f
  omega
 ·rw[<-f2]
  show(L++[_])++kc p f _=L++(if left=0 then[] else _::kc p f _)
  rw[if_neg h0,List.append_assoc]
  rfl
theorem zv {p:Prg}(hp:1<=p.atoms/\p.atoms<=24):OrdOk p (0,[],2^p.atoms.toNat-1):=by
 have hb:∀j,(2^p.atoms.toNat-1).testBit j=decide (j<p.atoms.toNat):=fun j=>Nat.testBit_two_pow_sub_one _ _
 refine⟨rfl,?_,?_,fun a ha=>?_,25,?_,rfl⟩
 ·have:=gR (2^p.atoms.toNat-1)
  show 0+(ak (2^p.atoms.toNat-1)).length<=24
  omega
 ·have:2^p.atoms.toNat<=2^24:=Nat.pow_le_pow_right dcd omg
  have:0<2^p.atoms.toNat:=Nat.pow_pos dcd
  show 2^p.atoms.toNat-1<2^24
  omega
 ·have h:=(Tb.mem_memN.1 ha).2
  have h:(2^p.atoms.toNat-1).testBit a=true:=h
  rw[hb,decide_eq_true_eq] at h
  exact h
 ·have:=gR (2^p.atoms.toNat-1)
  show(ak (2^p.atoms.toNat-1)).length<25
  omega
theorem zw (R:Res)[Tab LT R](p:Prg)(hb:aD p=true)(g:R.σ):Does Tryd.prog R 31 [aw p] [] g (.ret (.tup 2 (nth [du (cA p).length (fun i=>ai ((cA p).getD i 0)),.int .i64 0]))) [] g:=by
 have hroom:aN=140737488355328:=rfl
 obtain⟨hl,hr,hp,hh,hx⟩:=eK hb
 have hs:em p:=gl hb
 have hp':1<=p.atoms/\p.atoms<=24:=hp
 refine spW (nt:=57) (rs:=[.tmp 2,.tmp 3]) (k0:=0) ?_
 have hc:((if aD p then(0:Int) else 2) != 0)=false:=by rw[hb];rfl
 refine vcR [[1,0,0,1,0]] (lkL [(0,[1]),(1,[1,13]),(3,[1,4]),(4,[1,4,15,16])]) (lkL [(1,[(1,ROrc.pcall (i6 (if aD p=true then 0 else 2)))])]) (fun Q=>(fun (u1:Int)=>(fun (u2:AObj)=>2<=2/\(∀(hp:List AObj) (g:R.σ),true=true/\Does Tryd.prog R 16 [aw p] hp g (ret (i6 u1)) hp g)/\((u1 != 0)=true->WpC Tryd.prog R 57 0 31 [1,0,0,1,0] Q [Kont.seq [1,0,1]] (St.mk [(1,ref 0 0),(13,AV.bool (u1 != 0))] [u2] g))/\((u1 != 0)=false->1<=2/\WpC Tryd.prog R 57 0 31 [1,0,1,1,0,1,0] Q [Kont.blk 0,Kont.seq [1,0,1,1,1]] (St.mk [(1,ref 0 0),(4,ref 1 0),(15,i6 p.atoms),(16,i6 0)] [u2,cO 1 fun a=>fz Fz.nil 0 0 fun x x_1=>any] g))) (cO 2 (nth [i6 p.atoms,ae p.rules]))) (if aD p=true then 0 else 2)) ⟨omg,(fun _ _=>⟨rfl,(ga _ _ _ _ omg)⟩),fun hcc=>(nomatch (hc.symm.trans hcc)),fun _=>⟨omg,?_⟩⟩
 refine cp (gg (fun _=>.any) 1) ?_
 refine cp (toL (s':=⟨[(1,.ref 0 0),(4,.ref 1 0),(15,.int .i64 p.atoms),(16,.int .i64 0)],[cO 2 (nth [.int .i64 p.atoms,ae p.rules]),cO 1 (fun _=>.ow true 2 0 1),cO (0*1) (onC p)],g⟩) (h1:=?_) (h2:=?_)) ?_
 ·exact⟨AM _,AM _,AM _,AM _,trivial⟩
 ·exact⟨AP _,⟨rfl,Nat.le_refl _,fun _ _=>Le.nil_ow⟩,⟨rfl,Nat.le_refl _,fun j hj=>absurd hj omg⟩,trivial⟩
 refine(bi krf (fun (a:Nat)=>⟨[(1,ref 0 0),(4,ref 1 0),(15,i6 p.atoms),(16,.int .i64 a)],[cO 2 (nth [.int .i64 p.atoms,ae p.rules]),cO 1 (fun _=>.ow true 2 a 1),cO (a*1) (onC p)],g⟩) (fun (a:Nat)=>(a<=p.atoms.toNat)) (fun (a:Nat)=>(p.atoms.toNat-a)) 0 (aY ⟨AM _,AM _,AM _,(AN krf),trivial⟩ rfl rfl) ?_ (fun a hi=>?_))
 ·exact Nat.zero_le _
 ·refine vcR [] (lkL [(5,[1,4,15,16,17]),(6,[1,4,5,15,16]),(7,[1,4,15,16]),(8,[1,4,15,16])]) (lkL [(7,[(3,ROrc.pcall (int u64 (↑(hgP p (Int.toNat (↑a:Int))):Int))),(5,ROrc.val (Orc.obj (onC p))),(6,ROrc.val (Orc.obj (nth [ow true 4 (a+1) 1])))])]) (fun Q=>(fun (u1:Int)=>(fun (u2:AV)=>(fun (u3:AObj)=>(decide (u1<p.atoms)=true->Flw Tryd.prog/\1<=1/\2<=2/\(∀(hp:List AObj) (g:R.σ),true=true/\Does Tryd.prog R 70 [aw p,i6 u1] hp g (ret u2) hp g)/\0<1/\(a+1)*8<=aN/\a+1<=aN/\1<=1/\a*1<=a*1/\(∀(c:Nat),c<(a+1)*1->int u64 (↑(hgP p c):Int)=bb 1 a (fun (i j:Nat)=>int u64 (↑(hgP p (i*1+j)):Int)) (fun (i j:Nat)=>ao (fun (j:Nat)=>int u64 0) 0 1 (fun (x:Nat)=>u2) (0+i*1+j)) c)/\1<=1/\(∀(c:Nat),c<1->nth [ow true 4 (a+1) 1] c=ao (fun (x:Nat)=>ow true 2 a 1) 0 1 (fun (x:Nat)=>ow true 4 (a+1) 1) c)/\(-9223372036854775808<=u1+1/\u1+1<=9223372036854775807)/\Q AEx.normal (St.mk [(1,ref 0 0),(4,ref 1 0),(15,i6 p.atoms),(16,i6 (u1+1))] [u3,cO 1 (nth [ow true 4 (a+1) 1]),dead,cO 1 (ao (fun (j:Nat)=>int u64 0) 0 1 fun x=>u2),cO ((a+1)*1) fun a=>int u64 (↑(hgP p a):Int)] g))/\(decide (u1<p.atoms)=false->Q (AEx.exit 0) (St.mk [(1,ref 0 0),(4,ref 1 0),(15,i6 p.atoms),(16,i6 u1),(17,AV.bool (decide (u1<p.atoms)))] [u3,cO 1 fun x=>ow true 2 a 1,cO (a*1) fun a=>int u64 (↑(hgP p a):Int)] g))) (cO 2 (nth [i6 p.atoms,ae p.rules]))) (int u64 (↑(hgP p a):Int))) ((↑a:Int))) ⟨fun c1=>have c1:(↑a:Int)<p.atoms:=(of_decide_eq_true c1);⟨krf,omg,omg,(fun _ _=>⟨rfl,(oC _ _ _ omg omg (by simp at * <;> omega) _ _)⟩),omg,omg,omg,omg,omg,?_,omg,(fun c hc=>match c,hc with|0,_=>krf ),omg,?_⟩,fun c1=>have c1:¬(↑a:Int)<p.atoms:=(of_decide_eq_false c1);?_⟩
  ·exact fun c hc=>(zt (f:=onC p) (z:=fun _=>.int .u64 0) hc).trans krf
  ·refine(aW (a+1) (toS [0,1,4] 5 (hob:=⟨⟨rfl,Nat.le_refl _,fun j hj=>match j,hj with|0,_=>(AM _)|1,_=>(AM _) ⟩,⟨rfl,Nat.le_refl _,fun j hj=>match j,hj with|0,_=>(AM _) ⟩,?_,trivial⟩)) ?_ ?_)
   ·exact⟨rfl,Nat.le_refl _,fun j _=>AN rfl⟩
   ·omega
   ·omega
  ·have ha:a=p.atoms.toNat:=by omega
   subst ha
   have hA:=fun (R:Res) (hp:List AObj) (g:R.σ)=>xu R p.atoms.toNat omg hp g
   rw[show((p.atoms.toNat:Nat):Int)=p.atoms by omega] at hA
   obtain⟨left0,hleft0⟩:∃l,2^p.atoms.toNat-1=l:=⟨_,rfl⟩
   simp only[hleft0] at hA
   obtain⟨n,hn⟩:∃n,p.atoms.toNat=n:=⟨_,rfl⟩
   rw[hn]
   refine⟨_,A0 _,vcR [] (lkL [(9,[1,4,6]),(10,[1,4,6,7]),(11,[4,6,7,8])]) (lkL [(9,[(2,ROrc.val (Orc.obj (nth [fn 82 0 (nth []) 1 (nth [ref 1 0])])))]),(11,[(2,ROrc.pcall (int u64 (↑left0:Int))),(4,ROrc.val (Orc.obj (nth [int u64 (↑left0:Int)])))])]) (fun Q=>(fun (u1:AV)=>(fun (u2:AV)=>1<=1/\(∀(c:Nat),c<1->nth [u2] c=ao (fun (a:Nat)=>AV.nilf) 0 1 (fun (x:Nat)=>u2) c)/\1<=2/\(∀(hp:List AObj) (g:R.σ),true=true/\Does Tryd.prog R 83 [i6 p.atoms] hp g (ret u1) hp g)/\1<=1/\(∀(c:Nat),c<1->nth [u1] c=ao (fun (a:Nat)=>int u64 0) 0 1 (fun (x:Nat)=>u1) c)/\WpC Tryd.prog R 57 0 31 [1,0,1,1,1,1,1,1,1,0,0] Q [Kont.blk 2,Kont.seq [1,0,1,1,1,1,1,1,1,1]] (St.mk [(4,ref 1 0),(6,ref 3 0),(7,ref 4 0),(8,ref 5 0)] [cO 2 (nth [i6 p.atoms,ae p.rules]),cO 1 fun x=>ow true 2 n 1,cO (n*1) fun a=>int u64 (↑(hgP p a):Int),cO 1 (nth [u2]),cO 1 fun a=>fz Fz.nil 0 0 fun x x_1=>any,cO 1 (nth [u1])] g)) (fn 82 0 (nth []) 1 (nth [ref 1 0]))) (int u64 (↑left0:Int))) ⟨omg,(fun c hc=>match c,hc with|0,_=>krf ),omg,(fun _ _=>⟨rfl,(hA _ _ _)⟩),omg,(fun c hc=>match c,hc with|0,_=>krf ),?_⟩⟩
   refine cp (gg (fun _=>.any) 1) ?_
   refine cp (toL (s':=⟨[(4,.ref 1 0),(6,.ref 3 0),(7,.ref 4 0),(8,.ref 5 0)],[cO 2 (nth [.int .i64 p.atoms,ae p.rules]),cO 1 (fun _=>.ow true 2 n 1),cO (n*1) (onC p),cO 1 (fun _=>.fn 82 0 (nth []) 1 (nth [.ref 1 0])),cO 1 (fun _=>.ow true 6 0 1),cO 1 (fun _=>.int .u64 left0),cO (0*1) (aM [])],g⟩) (h1:=?_) (h2:=?_)) ?_
   ·exact⟨AM _,AM _,AM _,AM _,trivial⟩
   ·exact⟨AP _,AP _,AP _,⟨rfl,Nat.le_refl _,fun j hj=>match j,hj with|0,_=>AM _⟩,⟨rfl,Nat.le_refl _,fun _ _=>Le.nil_ow⟩,⟨rfl,Nat.le_refl _,fun j hj=>match j,hj with|0,_=>AM _⟩,⟨rfl,Nat.le_refl _,fun j hj=>absurd hj omg⟩,trivial⟩
   refine(bi krf (fun (x:Nat × List Nat × Nat)=>⟨[(4,ref 1 0),(6,ref 3 0),(7,ref 4 0),(8,ref 5 0)],[cO 2 (nth [.int .i64 p.atoms,ae p.rules]),cO 1 (fun _=>.ow true 2 n 1),cO (n*1) (onC p),cO 1 (fun _=>.fn 82 0 (nth []) 1 (nth [.ref 1 0])),cO 1 (fun _=>.ow true 6 x.1 1),cO 1 (fun _=>.int .u64 x.2.2),cO (x.1*1) (aM x.2.1)],g⟩) (fun (x:Nat × List Nat × Nat)=>(OrdOk p x)) (fun (x:Nat × List Nat × Nat)=>((ak x.2.2).length)) (0,[],left0) (aY ⟨AM _,AM _,AM _,AM _,trivial⟩ rfl rfl) ?_ (fun x hi=>?_))
   ·rw[<-hleft0]
    exact zv hp'
   ·obtain⟨m,L,left⟩:=x
    have hok:=hi
    obtain⟨o1,o2,o3,o4,o5⟩:=hi
    simp only at o1 o2 o3 o4 o5
    have hat:0<n:=by omega
    refine vcR [] (lkL [(12,[4,6,7,8,31]),(13,[4,6,7,8,33])]) (lkL [(13,[(1,ROrc.call (fn 105 0 (nth []) 1 (nth [ref (List.length [cO 2 (nth [i6 p.atoms,ae p.rules]),cO 1 fun (x:Nat)=>ow true 2 n 1,cO (n*1) fun (a:Nat)=>int u64 (↑(hgP p a):Int),cO 1 fun (x:Nat)=>fn 82 0 (nth []) 1 (nth [ref 1 0]),cO 1 fun (x:Nat)=>ow true 6 m 1,cO 1 fun (x:Nat)=>int u64 (↑left:Int),cO (m*1) fun (a:Nat)=>fz Fz.auto 1 (List.length (ai (List.getD L a 0)).l) fun (i x:Nat)=>af (ai (List.getD L a 0)).l i]) 0])) ([cO 2 (nth [i6 p.atoms,ae p.rules]),cO 1 fun (x:Nat)=>ow true 2 n 1,cO (n*1) fun (a:Nat)=>int u64 (↑(hgP p a):Int),cO 1 fun (x:Nat)=>fn 82 0 (nth []) 1 (nth [ref 1 0]),cO 1 fun (x:Nat)=>ow true 6 m 1,cO 1 fun (x:Nat)=>int u64 (↑left:Int),cO (m*1) fun (a:Nat)=>fz Fz.auto 1 (List.length (ai (List.getD L a 0)).l) fun (i x:Nat)=>af (ai (List.getD L a 0)).l i]++[cO 1 fun (x:Nat)=>int u64 (↑left:Int)]) g)])]) (fun Q=>(fun (u1:List AObj)=>(fun (u2:List AObj)=>1<=1/\(((↑left:Int) != 0)=true->1<=1/\(true=true/\Does Tryd.prog R 77 [int u64 (↑left:Int)] u2 g (ret (fn 105 0 (nth []) 1 (nth [ref 7 0]))) u1 g)/\WpC Tryd.prog R 57 0 31 [1,0,1,1,1,1,1,1,1,0,0,0,1,0,1,0] Q [Kont.blk 4,Kont.blk 3] (St.mk [(4,ref 1 0),(6,ref 3 0),(7,ref 4 0),(8,ref 5 0),(33,fn 105 0 (nth []) 1 (nth [ref 7 0]))] u1 g))/\(((↑left:Int) != 0)=false->Q (AEx.exit 2) (St.mk [(4,ref 1 0),(6,ref 3 0),(7,ref 4 0),(8,ref 5 0),(31,AV.bool ((↑left:Int) != 0))] u2 g))) ([cO 2 (nth [i6 p.atoms,ae p.rules]),cO 1 fun x=>ow true 2 n 1,cO (n*1) fun a=>int u64 (↑(hgP p a):Int),cO 1 fun x=>fn 82 0 (nth []) 1 (nth [ref 1 0]),cO 1 fun x=>ow true 6 m 1,cO 1 fun x=>int u64 (↑left:Int),cO (m*1) fun a=>fz Fz.auto 1 (List.length (ai (List.getD L a 0)).l) fun i x=>af (ai (List.getD L a 0)).l i])) ([cO 2 (nth [i6 p.atoms,ae p.rules]),cO 1 fun x=>ow true 2 n 1,cO (n*1) fun a=>int u64 (↑(hgP p a):Int),cO 1 fun x=>fn 82 0 (nth []) 1 (nth [ref 1 0]),cO 1 fun x=>ow true 6 m 1,cO 1 fun x=>int u64 (↑left:Int),cO (m*1) fun a=>fz Fz.auto 1 (List.length (ai (List.getD L a 0)).l) fun i x=>af (ai (List.getD L a 0)).l i,cO 1 fun x=>int u64 (↑left:Int)])) ⟨omg,fun c1=>have c1:¬(↑left:Int)=0:=(bne_iff_ne.mp c1);⟨omg,⟨rfl,(cQ _ _ _ _)⟩,?_⟩,fun c1=>have c1:(↑left:Int)=0:=(bne_eq_false_iff_eq.mp c1);?_⟩
    ·have hne:left≠0:=by omega
     have hnx:=zu hr hok hne
     obtain⟨k1,k2,k3,k4⟩:=sE hr o3 hne
     obtain⟨K,hK⟩:∃K,iP p left=K:=⟨_,rfl⟩
     obtain⟨A,hA'⟩:∃A,dR p left=A:=⟨_,rfl⟩
     rw[hK] at k1 k3
     rw[hA'] at k2 k4 hnx
     have hAK:(ak left).getD K 0=A:=by rw[<-hA',<-hK];rfl
     rcases Nat.eq_zero_or_pos m with hm0|hm0
     ·subst hm0
      have hL:L=[]:=List.length_eq_zero_iff.1 o1.symm
      subst hL
      refine cp (toS (s':=⟨[(4,.ref 1 0),(6,.ref 3 0),(7,.ref 4 0),(8,.ref 5 0),(33,.fn 105 0 (nth []) 1 (nth [.ref 6 0]))],[cO 2 (nth [.int .i64 p.atoms,ae p.rules]),cO 1 (fun _=>.ow true 2 n 1),cO (n*1) (onC p),cO 1 (fun _=>.fn 82 0 (nth []) 1 (nth [.ref 1 0])),cO 1 (fun _=>.fz .nil 0 0 (fun _ _=>.any)),cO 1 (fun _=>.int .u64 left),cO 1 (fun _=>.int .u64 left)],g⟩) [0,1,2,3,4,5,7] 8 (hfr:=⟨AM _,AM _,AM _,AM _,Le.fn (fun i hi=>absurd hi (Nat.not_lt_zero i)) (fun i hi=>match i,hi with|0,_=>AM _),trivial⟩) (hob:=⟨⟨rfl,Nat.le_refl _,fun j hj=>match j,hj with|0,_=>AM _|1,_=>bp (by exact trivial)⟩,AP _,AP _,⟨rfl,Nat.le_refl _,fun j hj=>Le.fn (fun i hi=>absurd hi (Nat.not_lt_zero i)) (fun i hi=>match i,hi with|0,_=>AM _)⟩,⟨rfl,Nat.le_refl _,fun j hj=>Le.ow_nil⟩,AP _,AP _,trivial⟩)) ?_
      refine sZ 33 [34] 6 krf rfl rfl left K o3 [cO 2 (nth [.int .i64 p.atoms,ae p.rules]),cO 1 (fun _=>.ow true 2 n 1),cO (n*1) (onC p),cO 1 (fun _=>.fn 82 0 (nth []) 1 (nth [.ref 1 0])),cO 1 (fun _=>.fz .nil 0 0 (fun _ _=>.any)),cO 1 (fun _=>.int .u64 left)] (fC rfl rfl) rfl (by exact⟨omg,omg,omg,omg,omg,omg,omg,trivial⟩) (by exact⟨fun j hj=>(match j,hj with|0,_=>trivial|1,_=>trivial),fun _ _=>show 2<6 by omega,fun _ _=>trivial,fun _ _=>⟨trivial,trivial,show 1<6 by omega⟩,fun _ _=>trivial,fun _ _=>trivial,trivial⟩) rfl krf [4,6,7,8] (by exact⟨show 1<6 by omega,show 3<6 by omega,show 4<6 by omega,show 5<6 by omega,trivial⟩) (fun k l' hk hkN=>?_) (fun hKN pok l'=>?_) (fun h=>?_)
      ·obtain⟨a,ha⟩:∃a,(ak left).getD k 0=a:=⟨_,rfl⟩
       have ham:a∈ak left:=by rw[<-ha];exact bx _ 0 hkN
       have han:a<n:=by rw[<-hn];exact o4 a ham
       have h3:=k3 k hk
       rw[ha] at h3 ⊢
       have hO:=fun (R:Res) [Tab LT R] (g:R.σ)=>lX R p n a hr omg omg (fun b hb=>by have:=l6 hr hx (a:=a) omg omg hb;omega) g
       have hcd:=(l5 (p:=p) (a:=a) (gn hr omg) o3).trans h3
       refine vcR [] (lkL [(14,[4,6,7,8,9])]) (fun _=>[]) (fun (Q:AEx->St R.σ->Prop)=>Q AEx.normal (St.mk [(4,ref 1 0),(6,ref 3 0),(7,ref 4 0),(8,ref 5 0),(9,i6 (↑a:Int))] [cO 2 (nth [i6 p.atoms,ae p.rules]),cO 1 fun (x:Nat)=>ow true 2 n 1,cO (n*1) fun (a:Nat)=>int u64 (↑(hgP p a):Int),cO 1 fun (x:Nat)=>fn 82 0 (nth []) 1 (nth [ref 1 0]),cO 1 fun (x:Nat)=>fz Fz.nil 0 0 fun (x x_1:Nat)=>any,cO 1 fun (x:Nat)=>int u64 (↑left:Int)] g)) (?_)
       show Wp _ _ _ 6 _ _ _ _ _
       refine vcR [] (lkL [(15,[4,6,7,8,9,10]),(16,[4,6,7,8,10,46]),(17,[4,6,7,8,10]),(18,[4,6,7,8])]) (lkL [(15,[(2,ROrc.kcall (int u64 (↑(ay p a):Int)))]),(17,[(2,ROrc.callN (fn 105 0 (nth []) 1 (nth [ref (List.length [cO 2 (nth [i6 p.atoms,ae p.rules]),cO 1 fun (x:Nat)=>ow true 2 n 1,cO (n*1) fun (a:Nat)=>int u64 (↑(hgP p a):Int),cO 1 fun (x:Nat)=>fn 82 0 (nth []) 1 (nth [ref 1 0]),cO 1 fun (x:Nat)=>fz Fz.nil 0 0 fun (x x_1:Nat)=>any,cO 1 fun (x:Nat)=>int u64 (↑left:Int)]) 0])) [] [cO 1 fun (x:Nat)=>int u64 (↑(ay p a):Int)] g),(3,ROrc.callN (ow true 7 (List.length (ak (ay p a))) 1) [(6,cO 1 fun (j:Nat)=>any)] [cO (List.length (ak (ay p a))*1) fun (j:Nat)=>i6 (↑(List.getD (ak (ay p a)) j 0):Int)] g),(6,ROrc.val (Orc.obj (nth [ow true 9 1 1])))]),(18,[(3,ROrc.val (Orc.obj (nth [int u64 (IntKind.wrap u64 (↑(BitVec.toNat (BitVec.ofInt 64 (↑left:Int) &&& ~~~BitVec.ofInt 64 (↑(ay p a):Int))):Int))])))])]) (fun Q=>(fun (u1:List AObj)=>(fun (u2:Bool)=>(fun (u3:List AObj)=>(fun (u4:AV)=>(fun (u5:AObj)=>(fun (u6:AV)=>(fun (u7:AV)=>(fun (u8:AObj)=>(fun (u9:AObj)=>(fun (u10:AV)=>(fun (u11:AObj)=>(fun (u12:Bool)=>1<=1/\(true=true/\Does Tryd.prog R 82 [i6 (↑a:Int),ref 1 0] u1 g (ret u10) u1 g)/\u12=true/\1<=1/\(0<=(↑a:Int)/\(↑a:Int)<(↑n:Int))/\a+1<=n*1/\1<=1/\(u2=true->u12=true/\1<=1/\(true=true/\Does Tryd.prog R 77 [u10] u1 g (ret (fn 105 0 (nth []) 1 (nth [ref 6 0]))) u3 g)/\(true=true/\Does Tryd.prog R 75 [fn 105 0 (nth []) 1 (nth [ref 6 0])] u3 g (ret u7) [u11,cO 1 fun x=>ow true 2 n 1,u9,u8,cO 1 fun x=>u6,cO 1 fun x=>int u64 (↑left:Int),cO 1 fun j=>any,u5] g)/\0<1/\24<=aN/\1<=aN/\1<=1/\1<=1/\(∀(c:Nat),c<1->nth [ow true 9 1 1] c=ao (fun (x:Nat)=>u6) 0 1 (fun (x:Nat)=>ow true 9 1 1) c)/\1<=1/\1<=1/\(∀(c:Nat),c<1->nth [u4] c=ao (fun (x:Nat)=>int u64 (↑left:Int)) 0 1 (fun (x:Nat)=>u4) c)/\Q (AEx.exit 3) (St.mk [(4,ref 1 0),(6,ref 3 0),(7,ref 4 0),(8,ref 5 0)] [u11,cO 1 fun x=>ow true 2 n 1,u9,u8,cO 1 (nth [ow true 9 1 1]),cO 1 (nth [u4]),cO 1 fun j=>any,u5,cO 1 (ao (fun (j:Nat)=>u6) 0 1 fun x=>u7),cO 1 (bb 1 0 (fun (x x_1:Nat)=>any) fun i j=>ao (fun (j:Nat)=>u6) 0 1 (fun (x:Nat)=>u7) (0+i*1+j))] g))/\(u2=false->Q AEx.normal (St.mk [(4,ref 1 0),(6,ref 3 0),(7,ref 4 0),(8,ref 5 0),(10,u10),(46,AV.bool u2)] u1 g))) (Tables.follows Tryd.prog.toTables Departure.mixedOrders)) (cO 2 (nth [i6 p.atoms,ae p.rules]))) (int u64 (↑(ay p a):Int))) (cO (n*1) fun a=>int u64 (↑(hgP p a):Int))) (cO 1 fun x=>fn 82 0 (nth []) 1 (nth [ref 1 0]))) (ow true 7 (List.length (ak (ay p a))) 1)) (fz Fz.nil 0 0 fun x x_1=>any)) (cO (List.length (ak (ay p a))*1) fun j=>i6 (↑(List.getD (ak (ay p a)) j 0):Int))) (int u64 (IntKind.wrap u64 (↑(BitVec.toNat (BitVec.ofInt 64 (↑left:Int) &&& ~~~BitVec.ofInt 64 (↑(ay p a):Int))):Int)))) ([cO 2 (nth [i6 p.atoms,ae p.rules]),cO 1 fun x=>ow true 2 n 1,cO (n*1) fun a=>int u64 (↑(hgP p a):Int),cO 1 fun x=>fn 82 0 (nth []) 1 (nth [ref 1 0]),cO 1 fun x=>fz Fz.nil 0 0 fun x x_1=>any,cO 1 fun x=>int u64 (↑left:Int),cO 1 fun x=>int u64 (↑(ay p a):Int)])) (IntKind.wrap u64 (↑(BitVec.toNat (BitVec.ofInt 64 (IntKind.wrap u64 (↑(BitVec.toNat (BitVec.ofInt 64 (↑(hgP p a):Int)&&&BitVec.ofInt 64 (↑left:Int))):Int)) &&& ~~~BitVec.ofInt 64 (↑(ay p a):Int))):Int)==0)) ([cO 2 (nth [i6 p.atoms,ae p.rules]),cO 1 fun x=>ow true 2 n 1,cO (n*1) fun a=>int u64 (↑(hgP p a):Int),cO 1 fun x=>fn 82 0 (nth []) 1 (nth [ref 1 0]),cO 1 fun x=>fz Fz.nil 0 0 fun x x_1=>any,cO 1 fun x=>int u64 (↑left:Int)])) ⟨omg,⟨rfl,(doT (T:=LT) [1,2] 6 (fun R _ g=>hO R g))⟩,krf,omg,omg,omg,omg,fun c1=>have c1:IntKind.wrap u64 (↑(BitVec.toNat (BitVec.ofInt 64 (IntKind.wrap u64 (↑(BitVec.toNat (BitVec.ofInt 64 (↑(hgP p a):Int)&&&BitVec.ofInt 64 (↑left:Int))):Int)) &&& ~~~BitVec.ofInt 64 (↑(ay p a):Int))):Int)=0:=(beq_iff_eq.mp c1);⟨krf,omg,⟨rfl,(cQ _ _ _ _)⟩,⟨rfl,(doT (T:=LT) [6] 7 (fun R _ g=>lR R (ay p a) (by simp at * <;> omega) g))⟩,omg,omg,omg,omg,omg,(fun c hc=>match c,hc with|0,_=>krf ),omg,omg,(fun c hc=>match c,hc with|0,_=>krf ),?_⟩,fun c1=>have c1:¬IntKind.wrap u64 (↑(BitVec.toNat (BitVec.ofInt 64 (IntKind.wrap u64 (↑(BitVec.toNat (BitVec.ofInt 64 (↑(hgP p a):Int)&&&BitVec.ofInt 64 (↑left:Int))):Int)) &&& ~~~BitVec.ofInt 64 (↑(ay p a):Int))):Int)=0:=(beq_eq_false_iff_ne.mp c1);?_⟩
       ·exfalso
        rename_i c0
        exact absurd (hcd.symm.trans c0) dcd
       ·refine(eE rfl (aY trivial rfl rfl))
      ·rw[hAK]
       have han:A<n:=by rw[<-hn];exact o4 A k4
       have hO:=fun (R:Res) [Tab LT R] (g:R.σ)=>lX R p n A hr omg omg (fun b hb=>by have:=l6 hr hx (a:=A) omg omg hb;omega) g
       have hcd:=(l5 (p:=p) (a:=A) (gn hr omg) o3).trans k2
       have hw24:=su p A
       have hC:=fun (R:Res) [Tab LT R] (s:Nat) (hs:s<2^24) (g:R.σ)=>iO R s hs g
       refine vcR [] (lkL [(14,[4,6,7,8,9])]) (fun _=>[]) (fun (Q:AEx->St R.σ->Prop)=>Q AEx.normal (St.mk [(4,ref 1 0),(6,ref 3 0),(7,ref 4 0),(8,ref 5 0),(9,i6 (↑A:Int))] [cO 2 (nth [i6 p.atoms,ae p.rules]),cO 1 fun (x:Nat)=>ow true 2 n 1,cO (n*1) fun (a:Nat)=>int u64 (↑(hgP p a):Int),cO 1 fun (x:Nat)=>fn 82 0 (nth []) 1 (nth [ref 1 0]),cO 1 fun (x:Nat)=>fz Fz.nil 0 0 fun (x x_1:Nat)=>any,cO 1 fun (x:Nat)=>int u64 (↑left:Int),dead] g)) (?_)
       show Wp _ _ _ 7 _ _ _ _ _
       refine vcR [] (lkL [(15,[4,6,7,8,9,10]),(16,[4,6,7,8,10,46]),(17,[4,6,7,8,10]),(18,[4,6,7,8])]) (lkL [(15,[(2,ROrc.kcall (int u64 (↑(ay p A):Int)))]),(17,[(2,ROrc.callN (fn 105 0 (nth []) 1 (nth [ref (List.length [cO 2 (nth [i6 p.atoms,ae p.rules]),cO 1 fun (x:Nat)=>ow true 2 n 1,cO (n*1) fun (a:Nat)=>int u64 (↑(hgP p a):Int),cO 1 fun (x:Nat)=>fn 82 0 (nth []) 1 (nth [ref 1 0]),cO 1 fun (x:Nat)=>fz Fz.nil 0 0 fun (x x_1:Nat)=>any,cO 1 fun (x:Nat)=>int u64 (↑left:Int),dead]) 0])) [] [cO 1 fun (x:Nat)=>int u64 (↑(ay p A):Int)] g),(3,ROrc.callS (fz Fz.auto 1 (List.length (ai (ay p A)).l) fun (i x:Nat)=>af (ai (ay p A)).l i) [(7,cO 1 fun (j:Nat)=>any)] g),(5,ROrc.val (Orc.obj (aM ([]++[ay p A])))),(6,ROrc.val (Orc.obj (nth [ow true 9 1 1])))]),(18,[(3,ROrc.val (Orc.obj (nth [int u64 (IntKind.wrap u64 (↑(BitVec.toNat (BitVec.ofInt 64 (↑left:Int) &&& ~~~BitVec.ofInt 64 (↑(ay p A):Int))):Int))])))])]) (fun Q=>(fun (u1:List AObj)=>(fun (u2:Bool)=>(fun (u3:List AObj)=>(fun (u4:AV)=>(fun (u5:AV)=>(fun (u6:AV)=>(fun (u7:AObj)=>(fun (u8:AObj)=>(fun (u9:AV)=>(fun (u10:AObj)=>(fun (u11:Bool)=>1<=1/\(true=true/\Does Tryd.prog R 82 [i6 (↑A:Int),ref 1 0] u1 g (ret u9) u1 g)/\u11=true/\1<=1/\(0<=(↑A:Int)/\(↑A:Int)<(↑n:Int))/\A+1<=n*1/\1<=1/\(u2=true->u11=true/\1<=1/\(true=true/\Does Tryd.prog R 77 [u9] u1 g (ret (fn 105 0 (nth []) 1 (nth [ref 7 0]))) u3 g)/\(true=true/\Does Tryd.prog R 75 [fn 105 0 (nth []) 1 (nth [ref 7 0])] u3 g (ret u5) [u10,cO 1 fun x=>ow true 2 n 1,u8,u7,cO 1 fun x=>u6,cO 1 fun x=>int u64 (↑left:Int),dead,cO 1 fun j=>any] g)/\0<1/\24<=aN/\1<=aN/\1<=1/\(∀(c:Nat),c<1->(fz Fz.auto 1 (List.length (ai (List.getD ([]++[ay p A]) c 0)).l) fun i x=>af (ai (List.getD ([]++[ay p A]) c 0)).l i)=bb 1 0 (fun (x x_1:Nat)=>any) (fun (i j:Nat)=>ao (fun (j:Nat)=>u6) 0 1 (fun (x:Nat)=>u5) (0+i*1+j)) c)/\1<=1/\(∀(c:Nat),c<1->nth [ow true 9 1 1] c=ao (fun (x:Nat)=>u6) 0 1 (fun (x:Nat)=>ow true 9 1 1) c)/\1<=1/\1<=1/\(∀(c:Nat),c<1->nth [u4] c=ao (fun (x:Nat)=>int u64 (↑left:Int)) 0 1 (fun (x:Nat)=>u4) c)/\Q (AEx.exit 3) (St.mk [(4,ref 1 0),(6,ref 3 0),(7,ref 4 0),(8,ref 5 0)] [u10,cO 1 fun x=>ow true 2 n 1,u8,u7,cO 1 (nth [ow true 9 1 1]),cO 1 (nth [u4]),dead,cO 1 fun j=>any,cO 1 (ao (fun (j:Nat)=>u6) 0 1 fun x=>u5),cO 1 fun a=>fz Fz.auto 1 (List.length (ai (List.getD ([]++[ay p A]) a 0)).l) fun i x=>af (ai (List.getD ([]++[ay p A]) a 0)).l i] g))/\(u2=false->Q AEx.normal (St.mk [(4,ref 1 0),(6,ref 3 0),(7,ref 4 0),(8,ref 5 0),(10,u9),(46,AV.bool u2)] u1 g))) (Tables.follows Tryd.prog.toTables Departure.mixedOrders)) (cO 2 (nth [i6 p.atoms,ae p.rules]))) (int u64 (↑(ay p A):Int))) (cO (n*1) fun a=>int u64 (↑(hgP p a):Int))) (cO 1 fun x=>fn 82 0 (nth []) 1 (nth [ref 1 0]))) (fz Fz.nil 0 0 fun x x_1=>any)) (fz Fz.auto 1 (List.length (ai (ay p A)).l) fun i x=>af (ai (ay p A)).l i)) (int u64 (IntKind.wrap u64 (↑(BitVec.toNat (BitVec.ofInt 64 (↑left:Int) &&& ~~~BitVec.ofInt 64 (↑(ay p A):Int))):Int)))) ([cO 2 (nth [i6 p.atoms,ae p.rules]),cO 1 fun x=>ow true 2 n 1,cO (n*1) fun a=>int u64 (↑(hgP p a):Int),cO 1 fun x=>fn 82 0 (nth []) 1 (nth [ref 1 0]),cO 1 fun x=>fz Fz.nil 0 0 fun x x_1=>any,cO 1 fun x=>int u64 (↑left:Int),dead,cO 1 fun x=>int u64 (↑(ay p A):Int)])) (IntKind.wrap u64 (↑(BitVec.toNat (BitVec.ofInt 64 (IntKind.wrap u64 (↑(BitVec.toNat (BitVec.ofInt 64 (↑(hgP p A):Int)&&&BitVec.ofInt 64 (↑left:Int))):Int)) &&& ~~~BitVec.ofInt 64 (↑(ay p A):Int))):Int)==0)) ([cO 2 (nth [i6 p.atoms,ae p.rules]),cO 1 fun x=>ow true 2 n 1,cO (n*1) fun a=>int u64 (↑(hgP p a):Int),cO 1 fun x=>fn 82 0 (nth []) 1 (nth [ref 1 0]),cO 1 fun x=>fz Fz.nil 0 0 fun x x_1=>any,cO 1 fun x=>int u64 (↑left:Int),dead])) ⟨omg,⟨rfl,(doT (T:=LT) [1,2] 7 (fun R _ g=>hO R g))⟩,krf,omg,omg,omg,omg,fun c1=>have c1:IntKind.wrap u64 (↑(BitVec.toNat (BitVec.ofInt 64 (IntKind.wrap u64 (↑(BitVec.toNat (BitVec.ofInt 64 (↑(hgP p A):Int)&&&BitVec.ofInt 64 (↑left:Int))):Int)) &&& ~~~BitVec.ofInt 64 (↑(ay p A):Int))):Int)=0:=(beq_iff_eq.mp c1);⟨krf,omg,⟨rfl,(cQ _ _ _ _)⟩,⟨rfl,(doT (T:=LT) [7] 8 (fun R _ g=>hC R (ay p A) omg g))⟩,omg,omg,omg,omg,?_,omg,(fun c hc=>match c,hc with|0,_=>krf ),omg,omg,(fun c hc=>match c,hc with|0,_=>krf ),?_⟩,fun c1=>have c1:¬IntKind.wrap u64 (↑(BitVec.toNat (BitVec.ofInt 64 (IntKind.wrap u64 (↑(BitVec.toNat (BitVec.ofInt 64 (↑(hgP p A):Int)&&&BitVec.ofInt 64 (↑left:Int))):Int)) &&& ~~~BitVec.ofInt 64 (↑(ay p A):Int))):Int)=0:=(beq_eq_false_iff_ne.mp c1);?_⟩
       ·exact fun c hc=>(l7 (L:=[]) (m:=0) (z:=fun _=>.fz .nil 0 0 (fun _ _=>.any)) (old:=fun _ _=>.any) (by assumption) (fun i hi=>absurd hi (Nat.not_lt_zero i)) hc).trans krf
       ·show Cl R 0 (fx _ _) AEx.normal _
        refine(aW (0+1,[]++[ay p A],dH left (ay p A)) (toS [0,1,2,3,4,5,9] 10 (hob:=⟨⟨rfl,Nat.le_refl _,fun j hj=>match j,hj with|0,_=>(AM _)|1,_=>(AM _) ⟩,⟨rfl,Nat.le_refl _,fun j hj=>match j,hj with|0,_=>(AM _) ⟩,?_,⟨rfl,Nat.le_refl _,fun j hj=>match j,hj with|0,_=>(Le.fn (fun i hi=>absurd hi omg) (fun i hi=>match i,hi with|0,_=>(AM _) )) ⟩,⟨rfl,Nat.le_refl _,fun j hj=>match j,hj with|0,_=>(AM _) ⟩,⟨rfl,Nat.le_refl _,fun j hj=>match j,hj with|0,_=>(AN ?_) ⟩,⟨rfl,Nat.le_refl _,fun j hj=>match j,hj with|0,_=>(AM _) ⟩,trivial⟩)) ?_ ?_)
        ·exact⟨rfl,Nat.le_refl _,fun j _=>AN rfl⟩
        ·show AV.int .u64 _=AV.int .u64 _
         rw[oG o3]
        ·exact hnx.1
        ·exact hnx.2
       ·exfalso
        rename_i c0
        exact absurd (hcd.symm.trans c0) dcd
      ·exact absurd k1 omg
     ·refine sZ 33 [34] 7 krf rfl rfl left K o3 [cO 2 (nth [.int .i64 p.atoms,ae p.rules]),cO 1 (fun _=>.ow true 2 n 1),cO (n*1) (onC p),cO 1 (fun _=>.fn 82 0 (nth []) 1 (nth [.ref 1 0])),cO 1 (fun _=>.ow true 6 m 1),cO 1 (fun _=>.int .u64 left),cO (m*1) (aM L)] (fC rfl rfl) rfl (by exact⟨omg,omg,omg,omg,omg,omg,omg,omg,trivial⟩) (by exact⟨fun j hj=>(match j,hj with|0,_=>trivial|1,_=>trivial),fun _ _=>show 2<7 by omega,fun _ _=>trivial,fun _ _=>⟨trivial,trivial,show 1<7 by omega⟩,fun _ _=>show 6<7 by omega,fun _ _=>trivial,fun _ _=>trivial,trivial⟩) rfl krf [4,6,7,8] (by exact⟨show 1<7 by omega,show 3<7 by omega,show 4<7 by omega,show 5<7 by omega,trivial⟩) (fun k l' hk hkN=>?_) (fun hKN pok l'=>?_) (fun h=>?_)
      ·obtain⟨a,ha⟩:∃a,(ak left).getD k 0=a:=⟨_,rfl⟩
       have ham:a∈ak left:=by rw[<-ha];exact bx _ 0 hkN
       have han:a<n:=by rw[<-hn];exact o4 a ham
       have h3:=k3 k hk
       rw[ha] at h3 ⊢
       have hO:=fun (R:Res) [Tab LT R] (g:R.σ)=>lX R p n a hr omg omg (fun b hb=>by have:=l6 hr hx (a:=a) omg omg hb;omega) g
       have hcd:=(l5 (p:=p) (a:=a) (gn hr omg) o3).trans h3
       refine vcR [] (lkL [(14,[4,6,7,8,9])]) (fun _=>[]) (fun (Q:AEx->St R.σ->Prop)=>Q AEx.normal (St.mk [(4,ref 1 0),(6,ref 3 0),(7,ref 4 0),(8,ref 5 0),(9,i6 (↑a:Int))] [cO 2 (nth [i6 p.atoms,ae p.rules]),cO 1 fun (x:Nat)=>ow true 2 n 1,cO (n*1) fun (a:Nat)=>int u64 (↑(hgP p a):Int),cO 1 fun (x:Nat)=>fn 82 0 (nth []) 1 (nth [ref 1 0]),cO 1 fun (x:Nat)=>ow true 6 m 1,cO 1 fun (x:Nat)=>int u64 (↑left:Int),cO (m*1) fun (a:Nat)=>fz Fz.auto 1 (List.length (ai (List.getD L a 0)).l) fun (i x:Nat)=>af (ai (List.getD L a 0)).l i] g)) (?_)
       show Wp _ _ _ 7 _ _ _ _ _
       refine vcR [] (lkL [(15,[4,6,7,8,9,10]),(16,[4,6,7,8,10,46]),(17,[4,6,7,8,10]),(18,[4,6,7,8])]) (lkL [(15,[(2,ROrc.kcall (int u64 (↑(ay p a):Int)))]),(17,[(2,ROrc.callN (fn 105 0 (nth []) 1 (nth [ref (List.length [cO 2 (nth [i6 p.atoms,ae p.rules]),cO 1 fun (x:Nat)=>ow true 2 n 1,cO (n*1) fun (a:Nat)=>int u64 (↑(hgP p a):Int),cO 1 fun (x:Nat)=>fn 82 0 (nth []) 1 (nth [ref 1 0]),cO 1 fun (x:Nat)=>ow true 6 m 1,cO 1 fun (x:Nat)=>int u64 (↑left:Int),cO (m*1) fun (a:Nat)=>fz Fz.auto 1 (List.length (ai (List.getD L a 0)).l) fun (i x:Nat)=>af (ai (List.getD L a 0)).l i]) 0])) [] [cO 1 fun (x:Nat)=>int u64 (↑(ay p a):Int)] g),(3,ROrc.callN (ow true 8 (List.length (ak (ay p a))) 1) [(7,cO 1 fun (j:Nat)=>any)] [cO (List.length (ak (ay p a))*1) fun (j:Nat)=>i6 (↑(List.getD (ak (ay p a)) j 0):Int)] g),(6,ROrc.val (Orc.obj (nth [ow true 10 (m+1) 1])))]),(18,[(3,ROrc.val (Orc.obj (nth [int u64 (IntKind.wrap u64 (↑(BitVec.toNat (BitVec.ofInt 64 (↑left:Int) &&& ~~~BitVec.ofInt 64 (↑(ay p a):Int))):Int))])))])]) (fun Q=>(fun (u1:List AObj)=>(fun (u2:List AObj)=>(fun (u3:Bool)=>(fun (u4:AV)=>(fun (u5:AObj)=>(fun (u6:AV)=>(fun (u7:AObj)=>(fun (u8:AObj)=>(fun (u9:AV)=>(fun (u10:AObj)=>(fun (u11:Bool)=>1<=1/\(true=true/\Does Tryd.prog R 82 [i6 (↑a:Int),ref 1 0] u1 g (ret u9) u1 g)/\u11=true/\1<=1/\(0<=(↑a:Int)/\(↑a:Int)<(↑n:Int))/\a+1<=n*1/\1<=1/\(u3=true->u11=true/\1<=1/\(true=true/\Does Tryd.prog R 77 [u9] u1 g (ret (fn 105 0 (nth []) 1 (nth [ref 7 0]))) u2 g)/\(true=true/\Does Tryd.prog R 75 [fn 105 0 (nth []) 1 (nth [ref 7 0])] u2 g (ret u6) [u10,cO 1 fun x=>ow true 2 n 1,u8,u7,cO 1 fun x=>ow true 6 m 1,cO 1 fun x=>int u64 (↑left:Int),cO (m*1) fun a=>fz Fz.auto 1 (List.length (ai (List.getD L a 0)).l) fun i x=>af (ai (List.getD L a 0)).l i,cO 1 fun j=>any,u5] g)/\0<1/\(m+1)*24<=aN/\m+1<=aN/\1<=1/\m*1<=m*1/\1<=1/\(∀(c:Nat),c<1->nth [ow true 10 (m+1) 1] c=ao (fun (x:Nat)=>ow true 6 m 1) 0 1 (fun (x:Nat)=>ow true 10 (m+1) 1) c)/\1<=1/\1<=1/\(∀(c:Nat),c<1->nth [u4] c=ao (fun (x:Nat)=>int u64 (↑left:Int)) 0 1 (fun (x:Nat)=>u4) c)/\Q (AEx.exit 3) (St.mk [(4,ref 1 0),(6,ref 3 0),(7,ref 4 0),(8,ref 5 0)] [u10,cO 1 fun x=>ow true 2 n 1,u8,u7,cO 1 (nth [ow true 10 (m+1) 1]),cO 1 (nth [u4]),dead,cO 1 fun j=>any,u5,cO 1 (ao (fun (j:Nat)=>fz Fz.nil 0 0 fun x x_1=>any) 0 1 fun x=>u6),cO ((m+1)*1) (bb 1 m (fun (i j:Nat)=>fz Fz.auto 1 (List.length (ai (List.getD L (i*1+j) 0)).l) fun i_1 x=>af (ai (List.getD L (i*1+j) 0)).l i_1) fun i j=>ao (fun (j:Nat)=>fz Fz.nil 0 0 fun x x_1=>any) 0 1 (fun (x:Nat)=>u6) (0+i*1+j))] g))/\(u3=false->Q AEx.normal (St.mk [(4,ref 1 0),(6,ref 3 0),(7,ref 4 0),(8,ref 5 0),(10,u9),(46,AV.bool u3)] u1 g))) (Tables.follows Tryd.prog.toTables Departure.mixedOrders)) (cO 2 (nth [i6 p.atoms,ae p.rules]))) (int u64 (↑(ay p a):Int))) (cO (n*1) fun a=>int u64 (↑(hgP p a):Int))) (cO 1 fun x=>fn 82 0 (nth []) 1 (nth [ref 1 0]))) (ow true 8 (List.length (ak (ay p a))) 1)) (cO (List.length (ak (ay p a))*1) fun j=>i6 (↑(List.getD (ak (ay p a)) j 0):Int))) (int u64 (IntKind.wrap u64 (↑(BitVec.toNat (BitVec.ofInt 64 (↑left:Int) &&& ~~~BitVec.ofInt 64 (↑(ay p a):Int))):Int)))) (IntKind.wrap u64 (↑(BitVec.toNat (BitVec.ofInt 64 (IntKind.wrap u64 (↑(BitVec.toNat (BitVec.ofInt 64 (↑(hgP p a):Int)&&&BitVec.ofInt 64 (↑left:Int))):Int)) &&& ~~~BitVec.ofInt 64 (↑(ay p a):Int))):Int)==0)) ([cO 2 (nth [i6 p.atoms,ae p.rules]),cO 1 fun x=>ow true 2 n 1,cO (n*1) fun a=>int u64 (↑(hgP p a):Int),cO 1 fun x=>fn 82 0 (nth []) 1 (nth [ref 1 0]),cO 1 fun x=>ow true 6 m 1,cO 1 fun x=>int u64 (↑left:Int),cO (m*1) fun a=>fz Fz.auto 1 (List.length (ai (List.getD L a 0)).l) fun i x=>af (ai (List.getD L a 0)).l i,cO 1 fun x=>int u64 (↑(ay p a):Int)])) ([cO 2 (nth [i6 p.atoms,ae p.rules]),cO 1 fun x=>ow true 2 n 1,cO (n*1) fun a=>int u64 (↑(hgP p a):Int),cO 1 fun x=>fn 82 0 (nth []) 1 (nth [ref 1 0]),cO 1 fun x=>ow true 6 m 1,cO 1 fun x=>int u64 (↑left:Int),cO (m*1) fun a=>fz Fz.auto 1 (List.length (ai (List.getD L a 0)).l) fun i x=>af (ai (List.getD L a 0)).l i])) ⟨omg,⟨rfl,(doT (T:=LT) [1,2] 7 (fun R _ g=>hO R g))⟩,krf,omg,omg,omg,omg,fun c1=>have c1:IntKind.wrap u64 (↑(BitVec.toNat (BitVec.ofInt 64 (IntKind.wrap u64 (↑(BitVec.toNat (BitVec.ofInt 64 (↑(hgP p a):Int)&&&BitVec.ofInt 64 (↑left:Int))):Int)) &&& ~~~BitVec.ofInt 64 (↑(ay p a):Int))):Int)=0:=(beq_iff_eq.mp c1);⟨krf,omg,⟨rfl,(cQ _ _ _ _)⟩,⟨rfl,(doT (T:=LT) [7] 8 (fun R _ g=>lR R (ay p a) (by simp at * <;> omega) g) (e3:=by exact⟨AO,AO,AO,AO,AO,AO,AO,AO,AO,trivial⟩))⟩,omg,omg,omg,omg,omg,omg,(fun c hc=>match c,hc with|0,_=>krf ),omg,omg,(fun c hc=>match c,hc with|0,_=>krf ),?_⟩,fun c1=>have c1:¬IntKind.wrap u64 (↑(BitVec.toNat (BitVec.ofInt 64 (IntKind.wrap u64 (↑(BitVec.toNat (BitVec.ofInt 64 (↑(hgP p a):Int)&&&BitVec.ofInt 64 (↑left:Int))):Int)) &&& ~~~BitVec.ofInt 64 (↑(ay p a):Int))):Int)=0:=(beq_eq_false_iff_ne.mp c1);?_⟩
       ·exfalso
        rename_i c0
        exact absurd (hcd.symm.trans c0) dcd
       ·refine(eE rfl (aY trivial rfl rfl))
      ·rw[hAK]
       have han:A<n:=by rw[<-hn];exact o4 A k4
       have hO:=fun (R:Res) [Tab LT R] (g:R.σ)=>lX R p n A hr omg omg (fun b hb=>by have:=l6 hr hx (a:=A) omg omg hb;omega) g
       have hcd:=(l5 (p:=p) (a:=A) (gn hr omg) o3).trans k2
       have hw24:=su p A
       have hC:=fun (R:Res) [Tab LT R] (s:Nat) (hs:s<2^24) (g:R.σ)=>iO R s hs g
       refine vcR [] (lkL [(14,[4,6,7,8,9])]) (fun _=>[]) (fun (Q:AEx->St R.σ->Prop)=>Q AEx.normal (St.mk [(4,ref 1 0),(6,ref 3 0),(7,ref 4 0),(8,ref 5 0),(9,i6 (↑A:Int))] [cO 2 (nth [i6 p.atoms,ae p.rules]),cO 1 fun (x:Nat)=>ow true 2 n 1,cO (n*1) fun (a:Nat)=>int u64 (↑(hgP p a):Int),cO 1 fun (x:Nat)=>fn 82 0 (nth []) 1 (nth [ref 1 0]),cO 1 fun (x:Nat)=>ow true 6 m 1,cO 1 fun (x:Nat)=>int u64 (↑left:Int),cO (m*1) fun (a:Nat)=>fz Fz.auto 1 (List.length (ai (List.getD L a 0)).l) fun (i x:Nat)=>af (ai (List.getD L a 0)).l i,dead] g)) (?_)
       show Wp _ _ _ 8 _ _ _ _ _
       refine vcR [] (lkL [(15,[4,6,7,8,9,10]),(16,[4,6,7,8,10,46]),(17,[4,6,7,8,10]),(18,[4,6,7,8])]) (lkL [(15,[(2,ROrc.kcall (int u64 (↑(ay p A):Int)))]),(17,[(2,ROrc.callN (fn 105 0 (nth []) 1 (nth [ref (List.length [cO 2 (nth [i6 p.atoms,ae p.rules]),cO 1 fun (x:Nat)=>ow true 2 n 1,cO (n*1) fun (a:Nat)=>int u64 (↑(hgP p a):Int),cO 1 fun (x:Nat)=>fn 82 0 (nth []) 1 (nth [ref 1 0]),cO 1 fun (x:Nat)=>ow true 6 m 1,cO 1 fun (x:Nat)=>int u64 (↑left:Int),cO (m*1) fun (a:Nat)=>fz Fz.auto 1 (List.length (ai (List.getD L a 0)).l) fun (i x:Nat)=>af (ai (List.getD L a 0)).l i,dead]) 0])) [] [cO 1 fun (x:Nat)=>int u64 (↑(ay p A):Int)] g),(3,ROrc.callS (fz Fz.auto 1 (List.length (ai (ay p A)).l) fun (i x:Nat)=>af (ai (ay p A)).l i) [(8,cO 1 fun (j:Nat)=>any)] g),(5,ROrc.val (Orc.obj (aM (L++[ay p A])))),(6,ROrc.val (Orc.obj (nth [ow true 10 (m+1) 1])))]),(18,[(3,ROrc.val (Orc.obj (nth [int u64 (IntKind.wrap u64 (↑(BitVec.toNat (BitVec.ofInt 64 (↑left:Int) &&& ~~~BitVec.ofInt 64 (↑(ay p A):Int))):Int))])))])]) (fun Q=>(fun (u1:List AObj)=>(fun (u2:List AObj)=>(fun (u3:Bool)=>(fun (u4:AV)=>(fun (u5:AV)=>(fun (u6:AObj)=>(fun (u7:AObj)=>(fun (u8:AV)=>(fun (u9:AObj)=>1<=1/\(true=true/\Does Tryd.prog R 82 [i6 (↑A:Int),ref 1 0] u1 g (ret u8) u1 g)/\Flw Tryd.prog/\1<=1/\(0<=(↑A:Int)/\(↑A:Int)<(↑n:Int))/\A+1<=n*1/\1<=1/\(u3=true->Flw Tryd.prog/\1<=1/\(true=true/\Does Tryd.prog R 77 [u8] u1 g (ret (fn 105 0 (nth []) 1 (nth [ref 8 0]))) u2 g)/\(true=true/\Does Tryd.prog R 75 [fn 105 0 (nth []) 1 (nth [ref 8 0])] u2 g (ret u5) [u9,cO 1 fun x=>ow true 2 n 1,u7,u6,cO 1 fun x=>ow true 6 m 1,cO 1 fun x=>int u64 (↑left:Int),cO (m*1) fun a=>fz Fz.auto 1 (List.length (ai (List.getD L a 0)).l) fun i x=>af (ai (List.getD L a 0)).l i,dead,cO 1 fun j=>any] g)/\0<1/\(m+1)*24<=aN/\m+1<=aN/\1<=1/\m*1<=m*1/\(∀(c:Nat),c<(m+1)*1->(fz Fz.auto 1 (List.length (ai (List.getD (L++[ay p A]) c 0)).l) fun i x=>af (ai (List.getD (L++[ay p A]) c 0)).l i)=bb 1 m (fun (i j:Nat)=>fz Fz.auto 1 (List.length (ai (List.getD L (i*1+j) 0)).l) fun i_1 x=>af (ai (List.getD L (i*1+j) 0)).l i_1) (fun (i j:Nat)=>ao (fun (j:Nat)=>fz Fz.nil 0 0 fun x x_1=>any) 0 1 (fun (x:Nat)=>u5) (0+i*1+j)) c)/\1<=1/\(∀(c:Nat),c<1->nth [ow true 10 (m+1) 1] c=ao (fun (x:Nat)=>ow true 6 m 1) 0 1 (fun (x:Nat)=>ow true 10 (m+1) 1) c)/\1<=1/\1<=1/\(∀(c:Nat),c<1->nth [u4] c=ao (fun (x:Nat)=>int u64 (↑left:Int)) 0 1 (fun (x:Nat)=>u4) c)/\Q (AEx.exit 3) (St.mk [(4,ref 1 0),(6,ref 3 0),(7,ref 4 0),(8,ref 5 0)] [u9,cO 1 fun x=>ow true 2 n 1,u7,u6,cO 1 (nth [ow true 10 (m+1) 1]),cO 1 (nth [u4]),dead,dead,cO 1 fun j=>any,cO 1 (ao (fun (j:Nat)=>fz Fz.nil 0 0 fun x x_1=>any) 0 1 fun x=>u5),cO ((m+1)*1) fun a=>fz Fz.auto 1 (List.length (ai (List.getD (L++[ay p A]) a 0)).l) fun i x=>af (ai (List.getD (L++[ay p A]) a 0)).l i] g))/\(u3=false->Q AEx.normal (St.mk [(4,ref 1 0),(6,ref 3 0),(7,ref 4 0),(8,ref 5 0),(10,u8),(46,AV.bool u3)] u1 g))) (cO 2 (nth [i6 p.atoms,ae p.rules]))) (int u64 (↑(ay p A):Int))) (cO (n*1) fun a=>int u64 (↑(hgP p a):Int))) (cO 1 fun x=>fn 82 0 (nth []) 1 (nth [ref 1 0]))) (fz Fz.auto 1 (List.length (ai (ay p A)).l) fun i x=>af (ai (ay p A)).l i)) (int u64 (IntKind.wrap u64 (↑(BitVec.toNat (BitVec.ofInt 64 (↑left:Int) &&& ~~~BitVec.ofInt 64 (↑(ay p A):Int))):Int)))) (IntKind.wrap u64 (↑(BitVec.toNat (BitVec.ofInt 64 (IntKind.wrap u64 (↑(BitVec.toNat (BitVec.ofInt 64 (↑(hgP p A):Int)&&&BitVec.ofInt 64 (↑left:Int))):Int)) &&& ~~~BitVec.ofInt 64 (↑(ay p A):Int))):Int)==0)) ([cO 2 (nth [i6 p.atoms,ae p.rules]),cO 1 fun x=>ow true 2 n 1,cO (n*1) fun a=>int u64 (↑(hgP p a):Int),cO 1 fun x=>fn 82 0 (nth []) 1 (nth [ref 1 0]),cO 1 fun x=>ow true 6 m 1,cO 1 fun x=>int u64 (↑left:Int),cO (m*1) fun a=>fz Fz.auto 1 (List.length (ai (List.getD L a 0)).l) fun i x=>af (ai (List.getD L a 0)).l i,dead,cO 1 fun x=>int u64 (↑(ay p A):Int)])) ([cO 2 (nth [i6 p.atoms,ae p.rules]),cO 1 fun x=>ow true 2 n 1,cO (n*1) fun a=>int u64 (↑(hgP p a):Int),cO 1 fun x=>fn 82 0 (nth []) 1 (nth [ref 1 0]),cO 1 fun x=>ow true 6 m 1,cO 1 fun x=>int u64 (↑left:Int),cO (m*1) fun a=>fz Fz.auto 1 (List.length (ai (List.getD L a 0)).l) fun i x=>af (ai (List.getD L a 0)).l i,dead])) ⟨omg,⟨rfl,(doT (T:=LT) [1,2] 8 (fun R _ g=>hO R g))⟩,krf,omg,omg,omg,omg,fun c1=>have c1:IntKind.wrap u64 (↑(BitVec.toNat (BitVec.ofInt 64 (IntKind.wrap u64 (↑(BitVec.toNat (BitVec.ofInt 64 (↑(hgP p A):Int)&&&BitVec.ofInt 64 (↑left:Int))):Int)) &&& ~~~BitVec.ofInt 64 (↑(ay p A):Int))):Int)=0:=(beq_iff_eq.mp c1);⟨krf,omg,⟨rfl,(cQ _ _ _ _)⟩,⟨rfl,(doT (T:=LT) [8] 9 (fun R _ g=>hC R (ay p A) omg g))⟩,omg,omg,omg,omg,omg,?_,omg,(fun c hc=>match c,hc with|0,_=>krf ),omg,omg,(fun c hc=>match c,hc with|0,_=>krf ),?_⟩,fun c1=>have c1:¬IntKind.wrap u64 (↑(BitVec.toNat (BitVec.ofInt 64 (IntKind.wrap u64 (↑(BitVec.toNat (BitVec.ofInt 64 (↑(hgP p A):Int)&&&BitVec.ofInt 64 (↑left:Int))):Int)) &&& ~~~BitVec.ofInt 64 (↑(ay p A):Int))):Int)=0:=(beq_eq_false_iff_ne.mp c1);?_⟩
       ·exact fun c hc=>(l7 (L:=L) (m:=m) (z:=fun _=>.fz .nil 0 0 (fun _ _=>.any)) (old:=fun i j=>aM L (i*1+j)) (by assumption) (fun i hi=>by show aM L (i*1+0)=aM L i;rw[show i*1+0=i by omega]) hc).trans krf
       ·show Cl R 0 (fx _ _) AEx.normal _
        refine(aW (m+1,L++[ay p A],dH left (ay p A)) (toS [0,1,2,3,4,5,10] 11 (hob:=⟨⟨rfl,Nat.le_refl _,fun j hj=>match j,hj with|0,_=>(AM _)|1,_=>(AM _) ⟩,⟨rfl,Nat.le_refl _,fun j hj=>match j,hj with|0,_=>(AM _) ⟩,?_,⟨rfl,Nat.le_refl _,fun j hj=>match j,hj with|0,_=>(Le.fn (fun i hi=>absurd hi omg) (fun i hi=>match i,hi with|0,_=>(AM _) )) ⟩,⟨rfl,Nat.le_refl _,fun j hj=>match j,hj with|0,_=>(AM _) ⟩,⟨rfl,Nat.le_refl _,fun j hj=>match j,hj with|0,_=>(AN ?_) ⟩,?_,trivial⟩)) ?_ ?_)
        ·exact⟨rfl,Nat.le_refl _,fun j _=>AN rfl⟩
        ·show AV.int .u64 _=AV.int .u64 _
         rw[oG o3]
        ·exact⟨rfl,Nat.le_refl _,fun j _=>AN rfl⟩
        ·exact hnx.1
        ·exact hnx.2
       ·exfalso
        rename_i c0
        exact absurd (hcd.symm.trans c0) dcd
      ·exact absurd k1 omg
    ·have hl0:left=0:=by omega
     subst hl0
     have hLo:L=cA p:=by
      obtain⟨f,f1,f2⟩:=o5
      obtain⟨f,rfl⟩:∃k,f=k+1:=⟨f-1,omg⟩
      rw[<-f2]
      show L=L++(if (0:Nat)=0 then[] else _)
      rw[if_pos rfl,List.append_nil]
     subst hLo
     subst o1
     refine⟨_,A0 _,vcR [] (lkL [(19,[2,3])]) (fun _=>[]) (fun Q=>1<=1/\Q AEx.ret (St.mk [(2,ow true 6 (List.length (cA p)) 1),(3,i6 0)] [cO 2 (nth [i6 p.atoms,ae p.rules]),cO 1 fun x=>ow true 2 n 1,cO (n*1) fun a=>int u64 (↑(hgP p a):Int),cO 1 fun x=>fn 82 0 (nth []) 1 (nth [ref 1 0]),cO 1 fun x=>ow true 6 (List.length (cA p)) 1,cO 1 fun x=>int u64 (↑0:Int),cO (List.length (cA p)*1) fun a=>fz Fz.auto 1 (List.length (ai (List.getD (cA p) a 0)).l) fun i x=>af (ai (List.getD (cA p) a 0)).l i] g)) ⟨omg,?_⟩⟩
     show bK Tryd.prog R 0 _ _ _ _ .ret _
     refine fA (.tup 2 (nth [.ow true 6 (cA p).length 1,.int .i64 0])) _ rfl trivial (jP 0 [(0,.tup 2 (nth [du (cA p).length (fun i=>ai ((cA p).getD i 0)),.int .i64 0]))] (Nat.le_refl _) (Nat.zero_le _) (fun i hi=>absurd hi (Nat.not_lt_zero i)) ⟨aB.tup (fun j hj=>?_),trivial⟩)
     match j,hj with
     |0,_=>exact aB.le (aB.ow (o:=6) (N:=(cA p).length*1) (c:=aM (cA p)) (get:=aM (cA p)) (fr:=false) rfl (Nat.zero_le _) (Nat.le_refl _) dcd (fun j _=>AU (fF _ _))) (AT rfl (fun i j hi hj=>by
       show aM (cA p) (i*1+j)=_
       rw[show i*1+j=i by omega]
       rfl))
     |1,_=>exact AU trivial
end Go.Avm.Pack
namespace Go.Avm.Pack
open Go Go.Avm Go.Proofs
open Go.IntKind (i64 u64)
open Go.Avm.AV (int bool any fz fp sl ow ref fn ifc val agg tup)
open Go.Avm.AObj (cells dead)
open Go.Avm.Oc (ret)
set_option maxRecDepth 4000
theorem l8 (R:Res)(v:Nat->Int)(n:Int)(x:Int)(h:0<=n/\n<=24)(g:R.σ):Does Tryd.prog R 76 [.ref 0 2,.int .i64 n,.int .i64 x] [cO 27 (aP v)] g (.ret (.int .u64 (aG v x n.toNat))) [cO 27 (aP v)] g:=by
 obtain⟨n,rfl⟩:∃m:Nat,n=m:=⟨n.toNat,omg⟩
 rw[Int.toNat_natCast]
 refine spW (nt:=26) (rs:=[.tmp 6]) (k0:=1) ?_
 refine vcR [] (lkL [(0,[0,1,2]),(1,[0,1,2,7]),(2,[0,2,7,9,10])]) (fun _=>[]) (fun (Q:AEx->St R.σ->Prop)=>WpC Tryd.prog R 26 1 76 [1,1,0,1,0] Q [Kont.blk 0,Kont.seq [1,1,1]] (St.mk [(0,ref 0 2),(2,i6 x),(7,int u64 0),(9,i6 (↑n:Int)),(10,i6 0)] [cO 27 (aP v)] g)) (?_)
 refine(bi krf (fun (k:Nat)=>⟨[(0,ref 0 2),(2,i6 x),(7,.int .u64 (aG v x k)),(9,i6 (n:Int)),(10,.int .i64 k)],[cO 27 (aP v)],g⟩) (fun (k:Nat)=>(k<=n)) (fun (k:Nat)=>(n-k)) 0 (aY ⟨AM _,AM _,(AN krf),AM _,(AN krf),trivial⟩ rfl rfl) ?_ (fun k hi=>?_))
 ·omega
 ·refine vcR [] (lkL [(3,[0,2,7,9,10,11]),(4,[0,2,7,8,9,10]),(5,[0,2,7,8,9,10,19]),(6,[0,2,7,9,10]),(7,[0,2,7,9,10])]) (lkL [(5,[(4,ROrc.kop (i6 (v k)))]),(6,[(2,ROrc.pcall (int u64 (↑(2^k):Int)))])]) (fun Q=>(fun (u1:Int)=>(fun (u2:Int)=>(fun (u3:List AObj)=>(fun (u4:Int)=>(decide (u1<u2)=true->(0<=u1/\u1<(↑24:Int))/\OpOk Tryd.prog R (Oper.mk (some 17) (Op.load 43 (Operand.tmp 16)) 43 "table.go:67" #[Edge.mk 3 Ground.data] none) (evO [Row.mk (some 16) none (ref 0 (k+2)) false (some []) [],Row.mk (some 15) none (ref 0 2) false (some []) [],Row.mk (some 14) none (i6 u1) false (some []) [],Row.mk (some 13) none (ref 0 2) false (some []) []] [(0,ref 0 2),(2,i6 x),(7,int u64 u4),(8,i6 u1),(9,i6 u2),(10,i6 u1)] []) u3 g (i6 (v k)) u3 g/\((v k==x)=true->(∀(hp:List AObj) (g:R.σ),true=true/\Does Tryd.prog R 79 [i6 u1] hp g (ret (int u64 (↑(2^k):Int))) hp g)/\(-9223372036854775808<=u1+1/\u1+1<=9223372036854775807)/\Q AEx.normal (St.mk [(0,ref 0 2),(2,i6 x),(7,int u64 (IntKind.wrap u64 (↑(BitVec.toNat (BitVec.ofInt 64 u4|||BitVec.ofInt 64 (↑(2^k):Int))):Int))),(9,i6 u2),(10,i6 (u1+1))] u3 g))/\((v k==x)=false->(-9223372036854775808<=u1+1/\u1+1<=9223372036854775807)/\Q AEx.normal (St.mk [(0,ref 0 2),(2,i6 x),(7,int u64 u4),(9,i6 u2),(10,i6 (u1+1))] u3 g)))/\(decide (u1<u2)=false->Q (AEx.exit 0) (St.mk [(0,ref 0 2),(2,i6 x),(7,int u64 u4),(9,i6 u2),(10,i6 u1),(11,AV.bool (decide (u1<u2)))] u3 g))) ((↑(aG v x k):Int))) ([cO 27 (aP v)])) ((↑n:Int))) ((↑k:Int))) ⟨fun c1=>have c1:(↑k:Int)<(↑n:Int):=(of_decide_eq_true c1);⟨omg,?_,fun c2=>have c2:v k=x:=(beq_iff_eq.mp c2);⟨(fun _ _=>⟨rfl,(gP _ _ omg _ _)⟩),omg,?_⟩,fun c2=>have c2:¬v k=x:=(beq_eq_false_iff_ne.mp c2);⟨omg,?_⟩⟩,fun c1=>have c1:¬(↑k:Int)<(↑n:Int):=(of_decide_eq_false c1);?_⟩
  ·exact dY rfl rfl krf rfl (by show _+1<=27;omega) (oy omg omg)
  ·refine(aW (k+1) (aY ⟨AM _,AM _,(AN ?_),AM _,(AN krf),trivial⟩ rfl rfl) ?_ ?_)
   ·show AV.int .u64 _=AV.int .u64 _
    congr 1
    rw[iG,if_pos c2]
    exact Tb.u64_or (bG (Nat.lt_of_lt_of_le (lE v x k) (Nat.pow_le_pow_right dcd omg))) (bG (Nat.pow_lt_pow_right dcd omg))
   ·omega
   ·omega
  ·refine(aW (k+1) (aY ⟨AM _,AM _,(AN ?_),AM _,(AN krf),trivial⟩ rfl rfl) ?_ ?_)
   ·show AV.int .u64 _=AV.int .u64 _
    rw[iG,if_neg c2]
   ·omega
   ·omega
  ·have hk:k=n:=by omega
   subst hk
   refine⟨_,A0 _,vcR [] (lkL [(8,[6])]) (fun _=>[]) (fun (Q:AEx->St R.σ->Prop)=>Q AEx.ret (St.mk [(6,int u64 (↑(aG v x k):Int))] [cO 27 (aP v)] g)) (?_)⟩
   refine(av (aX _ _ rfl trivial rfl rfl rfl) (AM _))
def stF (p:Prg)(most:Nat):List Int->Nat->List Nat->List Nat
 |[],s,out=>if out.length=most then out else if fol p.rules.l s=s then out++[s] else out
 |a::r,s,out=>if out.length=most then out else stF p most r (s|||2^a.toNat) (stF p most r s out)
theorem eM {p:Prg}{most:Nat}:∀{r:List Int} {s:Nat} {out:List Nat},out.length<=most->out.length<=(stF p most r s out).length/\(stF p most r s out).length<=most/\((stF p most r s out).length=out.length->stF p most r s out=out)
 |[],s,out,h=>by
  show out.length<=(if out.length=most then out else if fol p.rules.l s=s then out++[s] else out).length/\_
  show _/\(if out.length=most then out else if fol p.rules.l s=s then out++[s] else out).length<=most/\((if out.length=most then out else if fol p.rules.l s=s then out++[s] else out).length=out.length->(if out.length=most then out else if fol p.rules.l s=s then out++[s] else out)=out)
  split
  ·exact⟨Nat.le_refl _,h,fun _=>rfl⟩
  ·split
   ·rw[List.length_append,List.length_singleton]
    exact⟨omg,omg,fun h=>omg⟩
   ·exact⟨Nat.le_refl _,h,fun _=>rfl⟩
 |a::r,s,out,h=>by
  obtain⟨a1,a2,a3⟩:=eM (p:=p) (most:=most) (r:=r) (s:=s) (out:=out) h
  obtain⟨b1,b2,b3⟩:=eM (p:=p) (most:=most) (r:=r) (s:=s|||2^a.toNat) (out:=stF p most r s out) a2
  show out.length<=(if out.length=most then out else stF p most r (s|||2^a.toNat) (stF p most r s out)).length/\(if out.length=most then out else stF p most r (s|||2^a.toNat) (stF p most r s out)).length<=most/\((if out.length=most then out else stF p most r (s|||2^a.toNat) (stF p most r s out)).length=out.length->(if out.length=most then out else stF p most r (s|||2^a.toNat) (stF p most r s out))=out)
  split
  ·exact⟨Nat.le_refl _,h,fun _=>rfl⟩
  ·exact⟨omg,b2,fun h=>by
    have h1:=a3 omg
    rw[h1] at b3 b1 h ⊢
    exact b3 h⟩
theorem zx {p:Prg}{most:Nat}{r:List Int}{s:Nat}{out:List Nat}(h:out.length<=most)(h0:out≠[]):stF p most r s out≠[]:=fun e=>by
 have:=(eM (p:=p) (r:=r) (s:=s) h).1
 rw[e] at this
 exact h0 (List.length_eq_zero_iff.1 (Nat.le_zero.1 this))
structure FromC (p:Prg)(most:Nat)(O:KL Int)(r:List Int)(k:Int):Prop where
 nn:∀(R:Res) [Tab LT R] (s:Nat) (g:R.σ),s<2^24->stF p most r s []=[]->Does Tryd.prog R 78 [.int .i64 k,.int .u64 s,.ref 0 0,.ref 1 0,.ref 2 0,.ref 3 0,.ref 4 0] [cO 1 (fun _=>.fz .nil 0 0 (fun _ _=>.any)),cO 1 (fun _=>.int .i64 most),cO 1 (fun _=>ah O),cO 1 (fun _=>.fn 78 0 (nth []) 5 (nth [.ref 0 0,.ref 1 0,.ref 2 0,.ref 3 0,.ref 4 0])),cO 2 (nth [.int .i64 p.atoms,ae p.rules])] g (.ret (.tup 0 (nth []))) [cO 1 (fun _=>.fz .nil 0 0 (fun _ _=>.any)),cO 1 (fun _=>.int .i64 most),cO 1 (fun _=>ah O),cO 1 (fun _=>.fn 78 0 (nth []) 5 (nth [.ref 0 0,.ref 1 0,.ref 2 0,.ref 3 0,.ref 4 0])),cO 2 (nth [.int .i64 p.atoms,ae p.rules])] g
 nw:∀(R:Res) [Tab LT R] (s m:Nat) (L:List Nat) (g:R.σ),s<2^24->stF p most r s []=L->L≠[]->m=L.length->Does Tryd.prog R 78 [.int .i64 k,.int .u64 s,.ref 0 0,.ref 1 0,.ref 2 0,.ref 3 0,.ref 4 0] [cO 1 (fun _=>.fz .nil 0 0 (fun _ _=>.any)),cO 1 (fun _=>.int .i64 most),cO 1 (fun _=>ah O),cO 1 (fun _=>.fn 78 0 (nth []) 5 (nth [.ref 0 0,.ref 1 0,.ref 2 0,.ref 3 0,.ref 4 0])),cO 2 (nth [.int .i64 p.atoms,ae p.rules])] g (.ret (.tup 0 (nth []))) [cO 1 (fun _=>.ow true 5 m 1),cO 1 (fun _=>.int .i64 most),cO 1 (fun _=>ah O),cO 1 (fun _=>.fn 78 0 (nth []) 5 (nth [.ref 0 0,.ref 1 0,.ref 2 0,.ref 3 0,.ref 4 0])),cO 2 (nth [.int .i64 p.atoms,ae p.rules]),cO (m*1) (aM L)] g
 on:∀(R:Res) [Tab LT R] (s m:Nat) (L:List Nat) (g:R.σ),s<2^24->L≠[]->m=L.length->m<=most->stF p most r s L=L->Does Tryd.prog R 78 [.int .i64 k,.int .u64 s,.ref 0 0,.ref 1 0,.ref 2 0,.ref 3 0,.ref 4 0] [cO 1 (fun _=>.ow true 5 m 1),cO 1 (fun _=>.int .i64 most),cO 1 (fun _=>ah O),cO 1 (fun _=>.fn 78 0 (nth []) 5 (nth [.ref 0 0,.ref 1 0,.ref 2 0,.ref 3 0,.ref 4 0])),cO 2 (nth [.int .i64 p.atoms,ae p.rules]),cO (m*1) (aM L)] g (.ret (.tup 0 (nth []))) [cO 1 (fun _=>.ow true 5 m 1),cO 1 (fun _=>.int .i64 most),cO 1 (fun _=>ah O),cO 1 (fun _=>.fn 78 0 (nth []) 5 (nth [.ref 0 0,.ref 1 0,.ref 2 0,.ref 3 0,.ref 4 0])),cO 2 (nth [.int .i64 p.atoms,ae p.rules]),cO (m*1) (aM L)] g
 ow:∀(R:Res) [Tab LT R] (s m m':Nat) (L L':List Nat) (g:R.σ),s<2^24->L≠[]->m=L.length->m<=most->stF p most r s L=L'->m'=L'.length->m≠m'->Does Tryd.prog R 78 [.int .i64 k,.int .u64 s,.ref 0 0,.ref 1 0,.ref 2 0,.ref 3 0,.ref 4 0] [cO 1 (fun _=>.ow true 5 m 1),cO 1 (fun _=>.int .i64 most),cO 1 (fun _=>ah O),cO 1 (fun _=>.fn 78 0 (nth []) 5 (nth [.ref 0 0,.ref 1 0,.ref 2 0,.ref 3 0,.ref 4 0])),cO 2 (nth [.int .i64 p.atoms,ae p.rules]),cO (m*1) (aM L)] g (.ret (.tup 0 (nth []))) [cO 1 (fun _=>.ow true 6 m' 1),cO 1 (fun _=>.int .i64 most),cO 1 (fun _=>ah O),cO 1 (fun _=>.fn 78 0 (nth []) 5 (nth [.ref 0 0,.ref 1 0,.ref 2 0,.ref 3 0,.ref 4 0])),cO 2 (nth [.int .i64 p.atoms,ae p.rules]),.dead,cO (m'*1) (aM L')] g
theorem l9 {P:Program}{R:Res}{k0:Nat}{rs:List ResultVar}{x:AV}{hp':List AObj}{g':R.σ}{s:St R.σ}(v:AV)(ob:List Prop)(h:eh (aA P) s rs=some (v,ob))(hob:aq ob)(ht:To R k0 ⟨[(0,v)],s.hp,s.g⟩ ⟨[(0,x)],hp',g'⟩):bK P R k0 rs (.ret x) hp' g' .normal s:=
 ⟨v,ob,x,_,h,hob,rfl,ht,rfl,rfl,rfl⟩
theorem mb {f:Nat->Nat}{g:FuncId}(h0:f 0=0:=by rfl)(h1:f 1=1:=by rfl)(h2:f 2=2:=by rfl)(h3:f 3=3:=by rfl)(h4:f 4=4:=by rfl):Le (.fn g 0 (nth []) 5 (nth [.ref 0 0,.ref 1 0,.ref 2 0,.ref 3 0,.ref 4 0])) (aI f (.fn g 0 (nth []) 5 (nth [.ref 0 0,.ref 1 0,.ref 2 0,.ref 3 0,.ref 4 0]))):=
 Le.fn (fun i hi=>absurd hi (Nat.not_lt_zero i)) (fun i hi=>match i,hi with
  |0,_=>AN (by show AV.ref 0 0=.ref (f 0) 0;rw[h0])
  |1,_=>AN (by show AV.ref 1 0=.ref (f 1) 0;rw[h1])
  |2,_=>AN (by show AV.ref 2 0=.ref (f 2) 0;rw[h2])
  |3,_=>AN (by show AV.ref 3 0=.ref (f 3) 0;rw[h3])
  |4,_=>AN (by show AV.ref 4 0=.ref (f 4) 0;rw[h4]))
theorem zy {p:Prg}{most:Nat}{O:KL Int}(hm:1<=most/\most<=100)(hO:O.l.length<=10)(hl:p.rules.l.length<1000000)(hr:∀r,r∈p.rules.l->aE r):FromC p most O [] O.l.length:=by
 have hroom:aN=140737488355328:=rfl
 have hb:decide ((O.l.length:Int)<(O.l.length:Int))=false:=decide_eq_false omg
 have hz:(((0:Nat):Int)==(most:Int))=false:=by rw[beq_eq_false_iff_ne];omega
 have e0:∀s L,stF p most [] s L=if L.length=most then L else if fol p.rules.l s=s then L++[s] else L:=fun s L=>rfl
 have hC:=fun (R:Res) [Tab LT R] (s:Nat) (hs:s<2^24) (g:R.σ)=>iO R s hs g
 constructor
 ·intro R _ s g hs h
  rw[e0,if_neg (by show ¬0=most;omega)] at h
  have hf:((fol p.rules.l s:Int)==(s:Int))=false:=by
   rw[beq_eq_false_iff_ne]
   intro e
   rw[if_pos omg] at h
   cases h
  refine spW (nt:=47) (rs:=[]) (k0:=5) ?_
  refine vcR [[0,1,0],[0,1,1,1,0],[0,1,1,1,1,1,0]] (lkL [(0,[0,1,2,4,5,6,9]),(1,[0,1,2,4,5,6,14]),(4,[1,2,35])]) (lkL [(4,[(2,ROrc.pcall (int u64 (↑(fol p.rules.l s):Int)))])]) (fun Q=>(fun (u1:List AObj)=>(fun (u2:Int)=>(fun (u3:Bool)=>(fun (u4:AEx->St R.σ->Prop)=>(fun (u5:AV)=>(fun (u6:Bool)=>1<=1/\1<=1/\(u6=true->Wp Tryd.prog R 47 5 Rd.top (az Tryd.prog 78) [0,1,0] u4 (St.mk [(0,i6 u2),(1,u5),(2,ref 0 0),(4,ref 2 0),(5,ref 3 0),(6,ref 4 0),(9,AV.bool u6)] u1 g))/\(u6=false->1<=1/\(decide (u2<u2)=true->Wp Tryd.prog R 47 5 Rd.top (az Tryd.prog 78) [0,1,1,1,0] u4 (St.mk [(0,i6 u2),(1,u5),(2,ref 0 0),(4,ref 2 0),(5,ref 3 0),(6,ref 4 0),(14,AV.bool (decide (u2<u2)))] u1 g))/\(decide (u2<u2)=false->2<=2/\(∀(hp:List AObj) (g:R.σ),true=true/\Does Tryd.prog R 80 [aw p,u5] hp g (ret (int u64 (↑(fol p.rules.l s):Int))) hp g)/\(u3=true->Wp Tryd.prog R 47 5 Rd.top (az Tryd.prog 78) [0,1,1,1,1,1,0] u4 (St.mk [(1,u5),(2,ref 0 0),(35,AV.bool u3)] u1 g))/\(u3=false->Q AEx.normal (St.mk [(1,u5),(2,ref 0 0),(35,AV.bool u3)] u1 g))))) ((↑0:Int)==(↑most:Int))) (int u64 (↑s:Int))) (aV Tryd.prog R 47 5 Rd.top (az Tryd.prog 78) Q [Kont.blk 0])) ((↑(fol p.rules.l s):Int)==(↑s:Int))) ((↑(List.length O.l):Int))) ([cO 1 fun x=>fz Fz.nil 0 0 fun x x_1=>any,cO 1 fun x=>i6 (↑most:Int),cO 1 fun x=>fz O.2 1 (List.length O.l) fun i x=>af O.l i,cO 1 fun x=>fn 78 0 (nth []) 5 (nth [ref 0 0,ref 1 0,ref 2 0,ref 3 0,ref 4 0]),cO 2 (nth [i6 p.atoms,ae p.rules])])) ⟨omg,omg,fun hcc=>(nomatch (hz.symm.trans hcc)),fun _=>⟨omg,fun hcc=>(nomatch (hb.symm.trans hcc)),fun _=>⟨omg,(fun _ _=>⟨rfl,(lF _ _ _ _ omg omg omg _)⟩),fun hcc=>(nomatch (hf.symm.trans hcc)),fun _=>?_⟩⟩⟩
  refine(av (aX _ _ rfl trivial rfl rfl rfl) (AM _))
 ·intro R _ s m L g hs h hL hmL
  rw[e0,if_neg (by show ¬0=most;omega)] at h
  have hf:((fol p.rules.l s:Int)==(s:Int))=true:=by
   rw[beq_iff_eq]
   by_cases e:fol p.rules.l s=s
   ·omega
   ·rw[if_neg e] at h
    exact absurd h.symm hL
  rw[if_pos (by rw[beq_iff_eq] at hf;omega)] at h
  subst h
  subst hmL
  refine spW (nt:=47) (rs:=[]) (k0:=5) ?_
  refine vcR [[0,1,0],[0,1,1,1,0],[0,1,1,1,1,1,1]] (lkL [(0,[0,1,2,4,5,6,9]),(1,[0,1,2,4,5,6,14]),(4,[1,2,35])]) (lkL [(4,[(2,ROrc.pcall (int u64 (↑(fol p.rules.l s):Int)))]),(5,[(2,ROrc.callN (fn 105 0 (nth []) 1 (nth [ref (List.length [cO 1 fun (x:Nat)=>fz Fz.nil 0 0 fun (x x_1:Nat)=>any,cO 1 fun (x:Nat)=>i6 (↑most:Int),cO 1 fun (x:Nat)=>fz O.2 1 (List.length O.l) fun (i x:Nat)=>af O.l i,cO 1 fun (x:Nat)=>fn 78 0 (nth []) 5 (nth [ref 0 0,ref 1 0,ref 2 0,ref 3 0,ref 4 0]),cO 2 (nth [i6 p.atoms,ae p.rules])]) 0])) [] [cO 1 fun (x:Nat)=>int u64 (↑s:Int)] g),(3,ROrc.callS (fz Fz.auto 1 (List.length (ai s).l) fun (i x:Nat)=>af (ai s).l i) [(5,cO 1 fun (j:Nat)=>any)] g),(5,ROrc.val (Orc.obj (aM ([]++[s])))),(6,ROrc.val (Orc.obj (nth [ow true 7 1 1])))])]) (fun Q=>(fun (u1:List AObj)=>(fun (u2:List AObj)=>(fun (u3:Int)=>(fun (u4:AV)=>(fun (u5:AV)=>(fun (u6:AEx->St R.σ->Prop)=>(fun (u7:AObj)=>(fun (u8:AObj)=>(fun (u9:Bool)=>(fun (u10:AV)=>(fun (u11:Bool)=>(fun (u12:AObj)=>(fun (u13:AObj)=>1<=1/\1<=1/\(u11=true->Wp Tryd.prog R 47 5 Rd.top (az Tryd.prog 78) [0,1,0] u6 (St.mk [(0,i6 u3),(1,u10),(2,ref 0 0),(4,ref 2 0),(5,ref 3 0),(6,ref 4 0),(9,AV.bool u11)] u1 g))/\(u11=false->1<=1/\(decide (u3<u3)=true->Wp Tryd.prog R 47 5 Rd.top (az Tryd.prog 78) [0,1,1,1,0] u6 (St.mk [(0,i6 u3),(1,u10),(2,ref 0 0),(4,ref 2 0),(5,ref 3 0),(6,ref 4 0),(14,AV.bool (decide (u3<u3)))] u1 g))/\(decide (u3<u3)=false->2<=2/\(∀(hp:List AObj) (g:R.σ),true=true/\Does Tryd.prog R 80 [aw p,u10] hp g (ret (int u64 (↑(fol p.rules.l s):Int))) hp g)/\(u9=true->Flw Tryd.prog/\1<=1/\(true=true/\Does Tryd.prog R 77 [u10] u1 g (ret (fn 105 0 (nth []) 1 (nth [ref 5 0]))) u2 g)/\(true=true/\Does Tryd.prog R 75 [fn 105 0 (nth []) 1 (nth [ref 5 0])] u2 g (ret u4) [cO 1 fun x=>u5,u13,u8,u7,u12,cO 1 fun j=>any] g)/\0<1/\24<=aN/\1<=aN/\1<=1/\(∀(c:Nat),c<1->(fz Fz.auto 1 (List.length (ai (List.getD ([]++[s]) c 0)).l) fun i x=>af (ai (List.getD ([]++[s]) c 0)).l i)=bb 1 0 (fun (x x_1:Nat)=>any) (fun (i j:Nat)=>ao (fun (j:Nat)=>u5) 0 1 (fun (x:Nat)=>u4) (0+i*1+j)) c)/\1<=1/\(∀(c:Nat),c<1->nth [ow true 7 1 1] c=ao (fun (x:Nat)=>u5) 0 1 (fun (x:Nat)=>ow true 7 1 1) c)/\Q AEx.normal (St.mk [] [cO 1 (nth [ow true 7 1 1]),u13,u8,u7,u12,cO 1 fun j=>any,cO 1 (ao (fun (j:Nat)=>u5) 0 1 fun x=>u4),cO 1 fun a=>fz Fz.auto 1 (List.length (ai (List.getD ([]++[s]) a 0)).l) fun i x=>af (ai (List.getD ([]++[s]) a 0)).l i] g))/\(u9=false->Wp Tryd.prog R 47 5 Rd.top (az Tryd.prog 78) [0,1,1,1,1,1,1] u6 (St.mk [(1,u10),(2,ref 0 0),(35,AV.bool u9)] u1 g))))) (cO 1 fun x=>i6 (↑most:Int))) (cO 2 (nth [i6 p.atoms,ae p.rules]))) ((↑0:Int)==(↑most:Int))) (int u64 (↑s:Int))) ((↑(fol p.rules.l s):Int)==(↑s:Int))) (cO 1 fun x=>fz O.2 1 (List.length O.l) fun i x=>af O.l i)) (cO 1 fun x=>fn 78 0 (nth []) 5 (nth [ref 0 0,ref 1 0,ref 2 0,ref 3 0,ref 4 0]))) (aV Tryd.prog R 47 5 Rd.top (az Tryd.prog 78) Q [Kont.blk 0])) (fz Fz.nil 0 0 fun x x_1=>any)) (fz Fz.auto 1 (List.length (ai s).l) fun i x=>af (ai s).l i)) ((↑(List.length O.l):Int))) ([cO 1 fun x=>fz Fz.nil 0 0 fun x x_1=>any,cO 1 fun x=>i6 (↑most:Int),cO 1 fun x=>fz O.2 1 (List.length O.l) fun i x=>af O.l i,cO 1 fun x=>fn 78 0 (nth []) 5 (nth [ref 0 0,ref 1 0,ref 2 0,ref 3 0,ref 4 0]),cO 2 (nth [i6 p.atoms,ae p.rules]),cO 1 fun x=>int u64 (↑s:Int)])) ([cO 1 fun x=>fz Fz.nil 0 0 fun x x_1=>any,cO 1 fun x=>i6 (↑most:Int),cO 1 fun x=>fz O.2 1 (List.length O.l) fun i x=>af O.l i,cO 1 fun x=>fn 78 0 (nth []) 5 (nth [ref 0 0,ref 1 0,ref 2 0,ref 3 0,ref 4 0]),cO 2 (nth [i6 p.atoms,ae p.rules])])) ⟨omg,omg,fun hcc=>(nomatch (hz.symm.trans hcc)),fun _=>⟨omg,fun hcc=>(nomatch (hb.symm.trans hcc)),fun _=>⟨omg,(fun _ _=>⟨rfl,(lF _ _ _ _ omg omg omg _)⟩),fun _=>⟨krf,omg,⟨rfl,(cQ _ _ _ _)⟩,⟨rfl,(doT (T:=LT) [5] 6 (fun R _ g=>hC R (s) omg g))⟩,omg,omg,omg,omg,?_,omg,(fun c hc=>match c,hc with|0,_=>krf ),?_⟩,fun hcc=>(nomatch (hf.symm.trans hcc))⟩⟩⟩
  ·exact fun c hc=>(l7 (L:=[]) (m:=0) (z:=fun _=>.fz .nil 0 0 (fun _ _=>.any)) (old:=fun _ _=>.any) rfl (fun i hi=>absurd hi (Nat.not_lt_zero i)) hc).trans krf
  ·refine l9 (.tup 0 (nth [])) _ rfl trivial ?_
   refine ej [0,1,2,3,4,7] 8 ?_ ?_ ?_ ?_ ?_ ?_ ?_
   ·rfl
   ·rfl
   ·rfl
   ·rfl
   ·rfl
   ·exact⟨AM _,trivial⟩
   ·exact⟨⟨rfl,Nat.le_refl _,fun j hj=>match j,hj with|0,_=>AM _⟩,AP _,AP _,⟨rfl,Nat.le_refl _,fun j hj=>mb⟩,⟨rfl,Nat.le_refl _,fun j hj=>match j,hj with|0,_=>AM _|1,_=>bp (by exact trivial)⟩,⟨rfl,Nat.le_refl _,fun j hj=>AM _⟩,trivial⟩
 ·intro R _ s m L g hs hL hmL hmm h
  rw[e0] at h
  refine spW (nt:=47) (rs:=[]) (k0:=6) ?_
  refine vcR [[0,1,1,1,0]] (lkL [(0,[0,1,2,4,5,6,9]),(1,[0,1,2,4,5,6,14]),(4,[1,2,35])]) (lkL [(4,[(2,ROrc.pcall (int u64 (↑(fol p.rules.l s):Int)))]),(5,[(2,ROrc.callN (fn 105 0 (nth []) 1 (nth [ref (List.length [cO 1 fun (x:Nat)=>ow true 5 m 1,cO 1 fun (x:Nat)=>i6 (↑most:Int),cO 1 fun (x:Nat)=>fz O.2 1 (List.length O.l) fun (i x:Nat)=>af O.l i,cO 1 fun (x:Nat)=>fn 78 0 (nth []) 5 (nth [ref 0 0,ref 1 0,ref 2 0,ref 3 0,ref 4 0]),cO 2 (nth [i6 p.atoms,ae p.rules]),cO (m*1) fun (a:Nat)=>fz Fz.auto 1 (List.length (ai (List.getD L a 0)).l) fun (i x:Nat)=>af (ai (List.getD L a 0)).l i]) 0])) [] [cO 1 fun (x:Nat)=>int u64 (↑s:Int)] g),(3,ROrc.callS (fz Fz.auto 1 (List.length (ai s).l) fun (i x:Nat)=>af (ai s).l i) [(6,cO 1 fun (j:Nat)=>any)] g),(6,ROrc.val (Orc.obj (nth [ow true 8 (m+1) 1])))])]) (fun Q=>(fun (u1:List AObj)=>(fun (u2:List AObj)=>(fun (u3:Int)=>(fun (u4:AV)=>(fun (u5:AObj)=>(fun (u6:AObj)=>(fun (u7:Bool)=>(fun (u8:AV)=>(fun (u9:Bool)=>(fun (u10:AObj)=>(fun (u11:AObj)=>1<=1/\1<=1/\(u9=true->Q AEx.normal (St.mk [(0,i6 u3),(1,u8),(2,ref 0 0),(4,ref 2 0),(5,ref 3 0),(6,ref 4 0),(9,AV.bool u9)] u1 g))/\(u9=false->1<=1/\(decide (u3<u3)=true->WpC Tryd.prog R 47 6 78 [0,1,1,1,0] Q [Kont.blk 0] (St.mk [(0,i6 u3),(1,u8),(2,ref 0 0),(4,ref 2 0),(5,ref 3 0),(6,ref 4 0),(14,AV.bool (decide (u3<u3)))] u1 g))/\(decide (u3<u3)=false->2<=2/\(∀(hp:List AObj) (g:R.σ),true=true/\Does Tryd.prog R 80 [aw p,u8] hp g (ret (int u64 (↑(fol p.rules.l s):Int))) hp g)/\(u7=true->Flw Tryd.prog/\1<=1/\(true=true/\Does Tryd.prog R 77 [u8] u1 g (ret (fn 105 0 (nth []) 1 (nth [ref 6 0]))) u2 g)/\(true=true/\Does Tryd.prog R 75 [fn 105 0 (nth []) 1 (nth [ref 6 0])] u2 g (ret u4) [cO 1 fun x=>ow true 5 m 1,u11,u6,u5,u10,cO (m*1) fun a=>fz Fz.auto 1 (List.length (ai (List.getD L a 0)).l) fun i x=>af (ai (List.getD L a 0)).l i,cO 1 fun j=>any] g)/\0<1/\(m+1)*24<=aN/\m+1<=aN/\1<=1/\m*1<=m*1/\1<=1/\(∀(c:Nat),c<1->nth [ow true 8 (m+1) 1] c=ao (fun (x:Nat)=>ow true 5 m 1) 0 1 (fun (x:Nat)=>ow true 8 (m+1) 1) c)/\Q AEx.normal (St.mk [] [cO 1 (nth [ow true 8 (m+1) 1]),u11,u6,u5,u10,dead,cO 1 fun j=>any,cO 1 (ao (fun (j:Nat)=>fz Fz.nil 0 0 fun x x_1=>any) 0 1 fun x=>u4),cO ((m+1)*1) (bb 1 m (fun (i j:Nat)=>fz Fz.auto 1 (List.length (ai (List.getD L (i*1+j) 0)).l) fun i_1 x=>af (ai (List.getD L (i*1+j) 0)).l i_1) fun i j=>ao (fun (j:Nat)=>fz Fz.nil 0 0 fun x x_1=>any) 0 1 (fun (x:Nat)=>u4) (0+i*1+j))] g))/\(u7=false->Q AEx.normal (St.mk [(1,u8),(2,ref 0 0),(35,AV.bool u7)] u1 g))))) (cO 1 fun x=>i6 (↑most:Int))) (cO 2 (nth [i6 p.atoms,ae p.rules]))) ((↑m:Int)==(↑most:Int))) (int u64 (↑s:Int))) ((↑(fol p.rules.l s):Int)==(↑s:Int))) (cO 1 fun x=>fz O.2 1 (List.length O.l) fun i x=>af O.l i)) (cO 1 fun x=>fn 78 0 (nth []) 5 (nth [ref 0 0,ref 1 0,ref 2 0,ref 3 0,ref 4 0]))) (fz Fz.auto 1 (List.length (ai s).l) fun i x=>af (ai s).l i)) ((↑(List.length O.l):Int))) ([cO 1 fun x=>ow true 5 m 1,cO 1 fun x=>i6 (↑most:Int),cO 1 fun x=>fz O.2 1 (List.length O.l) fun i x=>af O.l i,cO 1 fun x=>fn 78 0 (nth []) 5 (nth [ref 0 0,ref 1 0,ref 2 0,ref 3 0,ref 4 0]),cO 2 (nth [i6 p.atoms,ae p.rules]),cO (m*1) fun a=>fz Fz.auto 1 (List.length (ai (List.getD L a 0)).l) fun i x=>af (ai (List.getD L a 0)).l i,cO 1 fun x=>int u64 (↑s:Int)])) ([cO 1 fun x=>ow true 5 m 1,cO 1 fun x=>i6 (↑most:Int),cO 1 fun x=>fz O.2 1 (List.length O.l) fun i x=>af O.l i,cO 1 fun x=>fn 78 0 (nth []) 5 (nth [ref 0 0,ref 1 0,ref 2 0,ref 3 0,ref 4 0]),cO 2 (nth [i6 p.atoms,ae p.rules]),cO (m*1) fun a=>fz Fz.auto 1 (List.length (ai (List.getD L a 0)).l) fun i x=>af (ai (List.getD L a 0)).l i])) ⟨omg,omg,fun c1=>have c1:(↑m:Int)=(↑most:Int):=(beq_iff_eq.mp c1);?_,fun c1=>have c1:¬(↑m:Int)=(↑most:Int):=(beq_eq_false_iff_ne.mp c1);⟨omg,fun hcc=>(nomatch (hb.symm.trans hcc)),fun _=>⟨omg,(fun _ _=>⟨rfl,(lF _ _ _ _ omg omg omg _)⟩),fun c2=>have c2:(↑(fol p.rules.l s):Int)=(↑s:Int):=(beq_iff_eq.mp c2);⟨krf,omg,⟨rfl,(cQ _ _ _ _)⟩,⟨rfl,(doT (T:=LT) [6] 7 (fun R _ g=>hC R (s) omg g))⟩,omg,omg,omg,omg,omg,omg,(fun c hc=>match c,hc with|0,_=>krf ),?_⟩,fun c2=>have c2:¬(↑(fol p.rules.l s):Int)=(↑s:Int):=(beq_eq_false_iff_ne.mp c2);?_⟩⟩⟩
  ·refine(av (aX _ _ rfl trivial rfl rfl rfl) (AM _))
  ·exfalso
   rw[if_neg omg,if_pos omg] at h
   have:=congrArg List.length h
   rw[List.length_append,List.length_singleton] at this
   omega
  ·refine(av (aX _ _ rfl trivial rfl rfl rfl) (AM _))
 ·intro R _ s m m' L L' g hs hL hmL hmm h hm' hne
  rw[e0] at h
  have hf:((fol p.rules.l s:Int)==(s:Int))=true:=by
   rw[beq_iff_eq]
   by_cases e:fol p.rules.l s=s
   ·omega
   ·rw[if_neg e,ite_self] at h
    subst h
    omega
  have h1:¬L.length=most:=fun e=>by
   rw[if_pos e] at h
   subst h
   omega
  rw[if_neg h1,if_pos (by rw[beq_iff_eq] at hf;omega)] at h
  subst h
  have hmm1:m'=m+1:=by rw[hm',List.length_append,hmL];rfl
  subst hmm1
  have hz:((m:Int)==(most:Int))=false:=by rw[beq_eq_false_iff_ne];omega
  refine spW (nt:=47) (rs:=[]) (k0:=6) ?_
  refine vcR [[0,1,0],[0,1,1,1,0],[0,1,1,1,1,1,1]] (lkL [(0,[0,1,2,4,5,6,9]),(1,[0,1,2,4,5,6,14]),(4,[1,2,35])]) (lkL [(4,[(2,ROrc.pcall (int u64 (↑(fol p.rules.l s):Int)))]),(5,[(2,ROrc.callN (fn 105 0 (nth []) 1 (nth [ref (List.length [cO 1 fun (x:Nat)=>ow true 5 m 1,cO 1 fun (x:Nat)=>i6 (↑most:Int),cO 1 fun (x:Nat)=>fz O.2 1 (List.length O.l) fun (i x:Nat)=>af O.l i,cO 1 fun (x:Nat)=>fn 78 0 (nth []) 5 (nth [ref 0 0,ref 1 0,ref 2 0,ref 3 0,ref 4 0]),cO 2 (nth [i6 p.atoms,ae p.rules]),cO (m*1) fun (a:Nat)=>fz Fz.auto 1 (List.length (ai (List.getD L a 0)).l) fun (i x:Nat)=>af (ai (List.getD L a 0)).l i]) 0])) [] [cO 1 fun (x:Nat)=>int u64 (↑s:Int)] g),(3,ROrc.callS (fz Fz.auto 1 (List.length (ai s).l) fun (i x:Nat)=>af (ai s).l i) [(6,cO 1 fun (j:Nat)=>any)] g),(5,ROrc.val (Orc.obj (aM (L++[s])))),(6,ROrc.val (Orc.obj (nth [ow true 8 (m+1) 1])))])]) (fun Q=>(fun (u1:List AObj)=>(fun (u2:List AObj)=>(fun (u3:Int)=>(fun (u4:AV)=>(fun (u5:AEx->St R.σ->Prop)=>(fun (u6:AObj)=>(fun (u7:AObj)=>(fun (u8:Bool)=>(fun (u9:AV)=>(fun (u10:Bool)=>(fun (u11:AObj)=>(fun (u12:AObj)=>1<=1/\1<=1/\(u10=true->Wp Tryd.prog R 47 6 Rd.top (az Tryd.prog 78) [0,1,0] u5 (St.mk [(0,i6 u3),(1,u9),(2,ref 0 0),(4,ref 2 0),(5,ref 3 0),(6,ref 4 0),(9,AV.bool u10)] u1 g))/\(u10=false->1<=1/\(decide (u3<u3)=true->Wp Tryd.prog R 47 6 Rd.top (az Tryd.prog 78) [0,1,1,1,0] u5 (St.mk [(0,i6 u3),(1,u9),(2,ref 0 0),(4,ref 2 0),(5,ref 3 0),(6,ref 4 0),(14,AV.bool (decide (u3<u3)))] u1 g))/\(decide (u3<u3)=false->2<=2/\(∀(hp:List AObj) (g:R.σ),true=true/\Does Tryd.prog R 80 [aw p,u9] hp g (ret (int u64 (↑(fol p.rules.l s):Int))) hp g)/\(u8=true->Flw Tryd.prog/\1<=1/\(true=true/\Does Tryd.prog R 77 [u9] u1 g (ret (fn 105 0 (nth []) 1 (nth [ref 6 0]))) u2 g)/\(true=true/\Does Tryd.prog R 75 [fn 105 0 (nth []) 1 (nth [ref 6 0])] u2 g (ret u4) [cO 1 fun x=>ow true 5 m 1,u12,u7,u6,u11,cO (m*1) fun a=>fz Fz.auto 1 (List.length (ai (List.getD L a 0)).l) fun i x=>af (ai (List.getD L a 0)).l i,cO 1 fun j=>any] g)/\0<1/\(m+1)*24<=aN/\m+1<=aN/\1<=1/\m*1<=m*1/\(∀(c:Nat),c<(m+1)*1->(fz Fz.auto 1 (List.length (ai (List.getD (L++[s]) c 0)).l) fun i x=>af (ai (List.getD (L++[s]) c 0)).l i)=bb 1 m (fun (i j:Nat)=>fz Fz.auto 1 (List.length (ai (List.getD L (i*1+j) 0)).l) fun i_1 x=>af (ai (List.getD L (i*1+j) 0)).l i_1) (fun (i j:Nat)=>ao (fun (j:Nat)=>fz Fz.nil 0 0 fun x x_1=>any) 0 1 (fun (x:Nat)=>u4) (0+i*1+j)) c)/\1<=1/\(∀(c:Nat),c<1->nth [ow true 8 (m+1) 1] c=ao (fun (x:Nat)=>ow true 5 m 1) 0 1 (fun (x:Nat)=>ow true 8 (m+1) 1) c)/\Q AEx.normal (St.mk [] [cO 1 (nth [ow true 8 (m+1) 1]),u12,u7,u6,u11,dead,cO 1 fun j=>any,cO 1 (ao (fun (j:Nat)=>fz Fz.nil 0 0 fun x x_1=>any) 0 1 fun x=>u4),cO ((m+1)*1) fun a=>fz Fz.auto 1 (List.length (ai (List.getD (L++[s]) a 0)).l) fun i x=>af (ai (List.getD (L++[s]) a 0)).l i] g))/\(u8=false->Wp Tryd.prog R 47 6 Rd.top (az Tryd.prog 78) [0,1,1,1,1,1,1] u5 (St.mk [(1,u9),(2,ref 0 0),(35,AV.bool u8)] u1 g))))) (cO 1 fun x=>i6 (↑most:Int))) (cO 2 (nth [i6 p.atoms,ae p.rules]))) ((↑m:Int)==(↑most:Int))) (int u64 (↑s:Int))) ((↑(fol p.rules.l s):Int)==(↑s:Int))) (cO 1 fun x=>fz O.2 1 (List.length O.l) fun i x=>af O.l i)) (cO 1 fun x=>fn 78 0 (nth []) 5 (nth [ref 0 0,ref 1 0,ref 2 0,ref 3 0,ref 4 0]))) (aV Tryd.prog R 47 6 Rd.top (az Tryd.prog 78) Q [Kont.blk 0])) (fz Fz.auto 1 (List.length (ai s).l) fun i x=>af (ai s).l i)) ((↑(List.length O.l):Int))) ([cO 1 fun x=>ow true 5 m 1,cO 1 fun x=>i6 (↑most:Int),cO 1 fun x=>fz O.2 1 (List.length O.l) fun i x=>af O.l i,cO 1 fun x=>fn 78 0 (nth []) 5 (nth [ref 0 0,ref 1 0,ref 2 0,ref 3 0,ref 4 0]),cO 2 (nth [i6 p.atoms,ae p.rules]),cO (m*1) fun a=>fz Fz.auto 1 (List.length (ai (List.getD L a 0)).l) fun i x=>af (ai (List.getD L a 0)).l i,cO 1 fun x=>int u64 (↑s:Int)])) ([cO 1 fun x=>ow true 5 m 1,cO 1 fun x=>i6 (↑most:Int),cO 1 fun x=>fz O.2 1 (List.length O.l) fun i x=>af O.l i,cO 1 fun x=>fn 78 0 (nth []) 5 (nth [ref 0 0,ref 1 0,ref 2 0,ref 3 0,ref 4 0]),cO 2 (nth [i6 p.atoms,ae p.rules]),cO (m*1) fun a=>fz Fz.auto 1 (List.length (ai (List.getD L a 0)).l) fun i x=>af (ai (List.getD L a 0)).l i])) ⟨omg,omg,fun hcc=>(nomatch (hz.symm.trans hcc)),fun _=>⟨omg,fun hcc=>(nomatch (hb.symm.trans hcc)),fun _=>⟨omg,(fun _ _=>⟨rfl,(lF _ _ _ _ omg omg omg _)⟩),fun _=>⟨krf,omg,⟨rfl,(cQ _ _ _ _)⟩,⟨rfl,(doT (T:=LT) [6] 7 (fun R _ g=>hC R (s) omg g))⟩,omg,omg,omg,omg,omg,?_,omg,(fun c hc=>match c,hc with|0,_=>krf ),?_⟩,fun hcc=>(nomatch (hf.symm.trans hcc))⟩⟩⟩
  ·exact fun c hc=>(l7 (L:=L) (m:=m) (z:=fun _=>.fz .nil 0 0 (fun _ _=>.any)) (old:=fun i j=>aM L (i*1+j)) hmL (fun i hi=>by show aM L (i*1+0)=aM L i;rw[show i*1+0=i by omega]) hc).trans krf
  ·refine l9 (.tup 0 (nth [])) _ rfl trivial ?_
   refine ej [0,1,2,3,4,5,8] 9 ?_ ?_ ?_ ?_ ?_ ?_ ?_
   ·rfl
   ·rfl
   ·rfl
   ·rfl
   ·rfl
   ·exact⟨AM _,trivial⟩
   ·exact⟨⟨rfl,Nat.le_refl _,fun j hj=>match j,hj with|0,_=>AM _⟩,AP _,AP _,⟨rfl,Nat.le_refl _,fun j hj=>mb⟩,⟨rfl,Nat.le_refl _,fun j hj=>match j,hj with|0,_=>AM _|1,_=>bp (by exact trivial)⟩,trivial,⟨rfl,Nat.le_refl _,fun j hj=>AM _⟩,trivial⟩
theorem zz {p:Prg}{most:Nat}{O:KL Int}{r:List Int}{k:Nat}(hm:1<=most/\most<=100)(hO:O.l.length<=10)(hk:k<O.l.length)(ha24:0<=O.l.getD k 0/\O.l.getD k 0<24)(ih:FromC p most O r ((k:Int)+1)):FromC p most O (O.l.getD k 0::r) (k:Int):=by
 have hroom:aN=140737488355328:=rfl
 have hb:decide ((k:Int)<(O.l.length:Int))=true:=decide_eq_true (by omega)
 have hz:(((0:Nat):Int)==(most:Int))=false:=by rw[beq_eq_false_iff_ne];omega
 have e0:∀s L,stF p most (O.l.getD k 0::r) s L=if L.length=most then L else stF p most r (s|||2^(O.l.getD k 0).toNat) (stF p most r s L):=fun s L=>rfl
 have hor:∀s:Nat,s<2^24->IntKind.u64.wrap ((BitVec.ofInt 64 (s:Int)|||BitVec.ofInt 64 ((2^(O.l.getD k 0).toNat:Nat):Int)).toNat:Int)=((s|||2^(O.l.getD k 0).toNat:Nat):Int):=fun s hs=>Tb.u64_or (bG hs) (bG (Nat.pow_lt_pow_right (by decide) (by omega)))
 have hor24:∀s:Nat,s<2^24->s|||2^(O.l.getD k 0).toNat<2^24:=fun s hs=>j9 hs (by omega)
 constructor
 ·intro R _ s g hs h
  rw[e0,if_neg (by show ¬0=most;omega)] at h
  obtain⟨t,ht⟩:∃t,s|||2^(O.l.getD k 0).toNat=t:=⟨_,rfl⟩
  have ht24:t<2^24:=by rw[<-ht];exact hor24 s hs
  have hoS:=(hor s hs).trans (congrArg (fun n:Nat=>(n:Int)) ht)
  have hL1:stF p most r s []=[]:=by
   by_cases e:stF p most r s []=[]
   ·exact e
   ·exact absurd h (zx (eM (Nat.zero_le _)).2.1 e)
  rw[hL1,ht] at h
  have i1:=fun (R:Res) [Tab LT R] (g:R.σ)=>ih.nn R s g hs hL1
  have i2:∀(R:Res) [Tab LT R] (g:R.σ),Does Tryd.prog R 78 [.int .i64 ((k:Int)+1),.int .u64 (IntKind.u64.wrap ((BitVec.ofInt 64 (s:Int)|||BitVec.ofInt 64 ((2^(O.l.getD k 0).toNat:Nat):Int)).toNat:Int)),.ref 0 0,.ref 1 0,.ref 2 0,.ref 3 0,.ref 4 0] [.cells false 1 (fun _=>.fz .nil 0 0 (fun _ _=>.any)),.cells false 1 (fun _=>.int .i64 most),.cells false 1 (fun _=>ah O),.cells false 1 (fun _=>.fn 78 0 (nth []) 5 (nth [.ref 0 0,.ref 1 0,.ref 2 0,.ref 3 0,.ref 4 0])),.cells false 2 (nth [.int .i64 p.atoms,ae p.rules])] g (.ret (.tup 0 (nth []))) [.cells false 1 (fun _=>.fz .nil 0 0 (fun _ _=>.any)),.cells false 1 (fun _=>.int .i64 most),.cells false 1 (fun _=>ah O),.cells false 1 (fun _=>.fn 78 0 (nth []) 5 (nth [.ref 0 0,.ref 1 0,.ref 2 0,.ref 3 0,.ref 4 0])),.cells false 2 (nth [.int .i64 p.atoms,ae p.rules])] g:=fun R _ g=>by rw[hoS];exact ih.nn R t g ht24 h
  refine dN (nt:=47) (rs:=[]) (k0:=5) (by kernel_rfl) (by kernel_rfl) (by kernel_rfl) rfl ?_
  refine vcQ [[0,1,0],[0,1,1,1,1]] (lkL [(0,[0,1,2,4,5,6,9]),(1,[0,1,2,4,5,6,14]),(2,[0,1,4,5])]) (lkL [(2,[(4,ROrc.call (tup 0 (nth [])) [cells false 1 fun (x:Nat)=>fz Fz.nil 0 0 fun _ _=>any,cells false 1 fun (x:Nat)=>int i64 (most:Int),cells false 1 fun (x:Nat)=>ah O,cells false 1 fun (x:Nat)=>fn 78 0 (nth []) 5 (nth [ref 0 0,ref 1 0,ref 2 0,ref 3 0,ref 4 0]),cells false 2 (nth [int i64 p.atoms,ae p.rules])] g)]),(3,[(8,ROrc.pcall (int u64 (↑(2^(O.l.getD k 0).toNat):Int))),(10,ROrc.callS (tup 0 (nth [])) [(2,cells false 1 fun (x:Nat)=>ah O)] g)])]) (fun Q=>(fun (u1:List AObj)=>(fun (u2:Int)=>(fun (u3:Int)=>(fun (u4:Bool)=>1<=1/\1<=1/\(u4=true->Wp Tryd.prog R 47 5 Rd.top (az Tryd.prog 78) [0,1,0] (aV Tryd.prog R 47 5 Rd.top (az Tryd.prog 78) Q [Kont.blk 0]) (St.mk [(0,int i64 u3),(1,int u64 (s:Int)),(2,ref 0 0),(4,ref 2 0),(5,ref 3 0),(6,ref 4 0),(9,AV.bool u4)] u1 g))/\(u4=false->1<=1/\(decide (u3<u2)=true->1<=1/\(-9223372036854775808<=u3+1/\u3+1<=9223372036854775807)/\(true=true/\Does Tryd.prog R 78 [int i64 (u3+1),int u64 (s:Int),ref 0 0,ref 1 0,ref 2 0,ref 3 0,ref 4 0] u1 g (ret (tup 0 (nth []))) u1 g)/\Tables.follows Tryd.prog.toTables Departure.mixedOrders=true/\1<=1/\(-9223372036854775808<=u3+1/\u3+1<=9223372036854775807)/\1<=1/\(0<=u3/\u3<u2)/\1<=1/\(∀(hp:List AObj) (g:R.σ),true=true/\Does Tryd.prog R 79 [af O.l k] hp g (ret (int u64 (↑(2^(O.l.getD k 0).toNat):Int))) hp g)/\(true=true/\Does Tryd.prog R 78 [int i64 (u3+1),int u64 (IntKind.wrap u64 (↑(BitVec.toNat (BitVec.ofInt 64 (s:Int)|||BitVec.ofInt 64 (↑(2^(O.l.getD k 0).toNat):Int))):Int)),ref 0 0,ref 1 0,ref 2 0,ref 3 0,ref 4 0] u1 g (ret (tup 0 (nth []))) u1 g)/\Q AEx.normal (St.mk [] u1 g))/\(decide (u3<u2)=false->Wp Tryd.prog R 47 5 Rd.top (az Tryd.prog 78) [0,1,1,1,1] (aV Tryd.prog R 47 5 Rd.top (az Tryd.prog 78) Q [Kont.blk 0]) (St.mk [(0,int i64 u3),(1,int u64 (s:Int)),(2,ref 0 0),(4,ref 2 0),(5,ref 3 0),(6,ref 4 0),(14,AV.bool (decide (u3<u2)))] u1 g)))) ((↑0:Int)==(most:Int))) ((k:Int))) ((O.l.length:Int))) ([cells false 1 fun (x:Nat)=>fz Fz.nil 0 0 fun _ _=>any,cells false 1 fun (x:Nat)=>int i64 (most:Int),cells false 1 fun (x:Nat)=>fz O.2 1 (O.l.length) fun (i x:Nat)=>af O.l i,cells false 1 fun (x:Nat)=>fn 78 0 (nth []) 5 (nth [ref 0 0,ref 1 0,ref 2 0,ref 3 0,ref 4 0]),cells false 2 (nth [int i64 p.atoms,ae p.rules])])) (fun _=>by kernel_rfl) ⟨by omega,by omega,fun hcc=>(nomatch (hz.symm.trans hcc)),fun _=>⟨by omega,fun _=>⟨by omega,by omega,⟨rfl,(i1 _ _)⟩,by kernel_rfl,by omega,by omega,by omega,by omega,by omega,(fun _ _=>⟨rfl,(d6 _ _ (by omega) _ _)⟩),⟨rfl,(i2 _ _)⟩,?_⟩,fun hcc=>(nomatch (hb.symm.trans hcc))⟩⟩
  refine(av (aX _ _ rfl trivial rfl rfl rfl) (AM _))
 ·intro R _ s m' L' g hs h hL' hm'
  rw[e0,if_neg (by show ¬0=most;omega)] at h
  obtain⟨t,ht⟩:∃t,s|||2^(O.l.getD k 0).toNat=t:=⟨_,rfl⟩
  have ht24:t<2^24:=by rw[<-ht];exact hor24 s hs
  have hoS:=(hor s hs).trans (congrArg (fun n:Nat=>(n:Int)) ht)
  rw[ht] at h
  obtain⟨L,hL⟩:∃L,stF p most r s []=L:=⟨_,rfl⟩
  have hlen:=eM (p:=p) (most:=most) (r:=r) (s:=s) (out:=[]) (Nat.zero_le _)
  rw[hL] at h hlen
  by_cases e:L=[]
  ·subst e
   have i1:=fun (R:Res) [Tab LT R] (g:R.σ)=>ih.nn R s g hs hL
   have i2:∀(R:Res) [Tab LT R] (g:R.σ),Does Tryd.prog R 78 [.int .i64 ((k:Int)+1),.int .u64 (IntKind.u64.wrap ((BitVec.ofInt 64 (s:Int)|||BitVec.ofInt 64 ((2^(O.l.getD k 0).toNat:Nat):Int)).toNat:Int)),.ref 0 0,.ref 1 0,.ref 2 0,.ref 3 0,.ref 4 0] [.cells false 1 (fun _=>.fz .nil 0 0 (fun _ _=>.any)),.cells false 1 (fun _=>.int .i64 most),.cells false 1 (fun _=>ah O),.cells false 1 (fun _=>.fn 78 0 (nth []) 5 (nth [.ref 0 0,.ref 1 0,.ref 2 0,.ref 3 0,.ref 4 0])),.cells false 2 (nth [.int .i64 p.atoms,ae p.rules])] g (.ret (.tup 0 (nth []))) [.cells false 1 (fun _=>.ow true 5 m' 1),.cells false 1 (fun _=>.int .i64 most),.cells false 1 (fun _=>ah O),.cells false 1 (fun _=>.fn 78 0 (nth []) 5 (nth [.ref 0 0,.ref 1 0,.ref 2 0,.ref 3 0,.ref 4 0])),.cells false 2 (nth [.int .i64 p.atoms,ae p.rules]),.cells false (m'*1) (aM L')] g:=fun R _ g=>by rw[hoS];exact ih.nw R t m' L' g ht24 h hL' hm'
   refine dN (nt:=47) (rs:=[]) (k0:=5) (by kernel_rfl) (by kernel_rfl) (by kernel_rfl) rfl ?_
   refine vcQ [[0,1,0],[0,1,1,1,1]] (lkL [(0,[0,1,2,4,5,6,9]),(1,[0,1,2,4,5,6,14]),(2,[0,1,4,5])]) (lkL [(2,[(4,ROrc.call (tup 0 (nth [])) [cells false 1 fun (x:Nat)=>fz Fz.nil 0 0 fun _ _=>any,cells false 1 fun (x:Nat)=>int i64 (most:Int),cells false 1 fun (x:Nat)=>ah O,cells false 1 fun (x:Nat)=>fn 78 0 (nth []) 5 (nth [ref 0 0,ref 1 0,ref 2 0,ref 3 0,ref 4 0]),cells false 2 (nth [int i64 p.atoms,ae p.rules])] g)]),(3,[(8,ROrc.pcall (int u64 (↑(2^(O.l.getD k 0).toNat):Int))),(10,ROrc.callN (tup 0 (nth [])) [(0,cells false 1 fun (x:Nat)=>ow true 5 m' 1),(2,cells false 1 fun (x:Nat)=>ah O)] [cells false (m'*1) (aM L')] g)])]) (fun Q=>(fun (u1:List AObj)=>(fun (u2:List AObj)=>(fun (u3:Int)=>(fun (u4:Int)=>(fun (u5:Bool)=>1<=1/\1<=1/\(u5=true->Wp Tryd.prog R 47 5 Rd.top (az Tryd.prog 78) [0,1,0] (aV Tryd.prog R 47 5 Rd.top (az Tryd.prog 78) Q [Kont.blk 0]) (St.mk [(0,int i64 u4),(1,int u64 (s:Int)),(2,ref 0 0),(4,ref 2 0),(5,ref 3 0),(6,ref 4 0),(9,AV.bool u5)] u1 g))/\(u5=false->1<=1/\(decide (u4<u3)=true->1<=1/\(-9223372036854775808<=u4+1/\u4+1<=9223372036854775807)/\(true=true/\Does Tryd.prog R 78 [int i64 (u4+1),int u64 (s:Int),ref 0 0,ref 1 0,ref 2 0,ref 3 0,ref 4 0] u1 g (ret (tup 0 (nth []))) u1 g)/\Tables.follows Tryd.prog.toTables Departure.mixedOrders=true/\1<=1/\(-9223372036854775808<=u4+1/\u4+1<=9223372036854775807)/\1<=1/\(0<=u4/\u4<u3)/\1<=1/\(∀(hp:List AObj) (g:R.σ),true=true/\Does Tryd.prog R 79 [af O.l k] hp g (ret (int u64 (↑(2^(O.l.getD k 0).toNat):Int))) hp g)/\(true=true/\Does Tryd.prog R 78 [int i64 (u4+1),int u64 (IntKind.wrap u64 (↑(BitVec.toNat (BitVec.ofInt 64 (s:Int)|||BitVec.ofInt 64 (↑(2^(O.l.getD k 0).toNat):Int))):Int)),ref 0 0,ref 1 0,ref 2 0,ref 3 0,ref 4 0] u1 g (ret (tup 0 (nth []))) u2 g)/\Q AEx.normal (St.mk [] u2 g))/\(decide (u4<u3)=false->Wp Tryd.prog R 47 5 Rd.top (az Tryd.prog 78) [0,1,1,1,1] (aV Tryd.prog R 47 5 Rd.top (az Tryd.prog 78) Q [Kont.blk 0]) (St.mk [(0,int i64 u4),(1,int u64 (s:Int)),(2,ref 0 0),(4,ref 2 0),(5,ref 3 0),(6,ref 4 0),(14,AV.bool (decide (u4<u3)))] u1 g)))) ((↑0:Int)==(most:Int))) ((k:Int))) ((O.l.length:Int))) ([cells false 1 fun (x:Nat)=>ow true 5 m' 1,cells false 1 fun (x:Nat)=>int i64 (most:Int),cells false 1 fun (x:Nat)=>fz O.2 1 (O.l.length) fun (i x:Nat)=>af O.l i,cells false 1 fun (x:Nat)=>fn 78 0 (nth []) 5 (nth [ref 0 0,ref 1 0,ref 2 0,ref 3 0,ref 4 0]),cells false 2 (nth [int i64 p.atoms,ae p.rules]),cells false (m'*1) fun (a:Nat)=>fz Fz.auto 1 ((ai (L'.getD a 0)).l.length) fun (i x:Nat)=>af (ai (L'.getD a 0)).l i])) ([cells false 1 fun (x:Nat)=>fz Fz.nil 0 0 fun _ _=>any,cells false 1 fun (x:Nat)=>int i64 (most:Int),cells false 1 fun (x:Nat)=>fz O.2 1 (O.l.length) fun (i x:Nat)=>af O.l i,cells false 1 fun (x:Nat)=>fn 78 0 (nth []) 5 (nth [ref 0 0,ref 1 0,ref 2 0,ref 3 0,ref 4 0]),cells false 2 (nth [int i64 p.atoms,ae p.rules])])) (fun _=>by kernel_rfl) ⟨by omega,by omega,fun hcc=>(nomatch (hz.symm.trans hcc)),fun _=>⟨by omega,fun _=>⟨by omega,by omega,⟨rfl,(i1 _ _)⟩,by kernel_rfl,by omega,by omega,by omega,by omega,by omega,(fun _ _=>⟨rfl,(d6 _ _ (by omega) _ _)⟩),⟨rfl,(i2 _ _)⟩,?_⟩,fun hcc=>(nomatch (hb.symm.trans hcc))⟩⟩
   refine(av (aX _ _ rfl trivial rfl rfl rfl) (AM _))
  ·obtain⟨m,hmL⟩:∃m,m=L.length:=⟨_,rfl⟩
   have h0:0<m:=by rw[hmL];exact List.length_pos_iff.2 e
   have hmm:m<=most:=by rw[hmL];exact hlen.2.1
   have hlen2:=eM (p:=p) (most:=most) (r:=r) (s:=t) (out:=L) hlen.2.1
   rw[h] at hlen2
   have h0':0<m':=by omega
   have hmm':m'<=most:=by omega
   have i1:=fun (R:Res) [Tab LT R] (g:R.σ)=>ih.nw R s m L g hs hL e hmL
   by_cases hmm1:m=m'
   ·have hLL:L'=L:=hlen2.2.2 (by omega)
    subst hLL
    subst hmm1
    have i2:∀(R:Res) [Tab LT R] (g:R.σ),Does Tryd.prog R 78 [.int .i64 ((k:Int)+1),.int .u64 (IntKind.u64.wrap ((BitVec.ofInt 64 (s:Int)|||BitVec.ofInt 64 ((2^(O.l.getD k 0).toNat:Nat):Int)).toNat:Int)),.ref 0 0,.ref 1 0,.ref 2 0,.ref 3 0,.ref 4 0] [.cells false 1 (fun _=>.ow true 5 m 1),.cells false 1 (fun _=>.int .i64 most),.cells false 1 (fun _=>ah O),.cells false 1 (fun _=>.fn 78 0 (nth []) 5 (nth [.ref 0 0,.ref 1 0,.ref 2 0,.ref 3 0,.ref 4 0])),.cells false 2 (nth [.int .i64 p.atoms,ae p.rules]),.cells false (m*1) (aM L')] g (.ret (.tup 0 (nth []))) [.cells false 1 (fun _=>.ow true 5 m 1),.cells false 1 (fun _=>.int .i64 most),.cells false 1 (fun _=>ah O),.cells false 1 (fun _=>.fn 78 0 (nth []) 5 (nth [.ref 0 0,.ref 1 0,.ref 2 0,.ref 3 0,.ref 4 0])),.cells false 2 (nth [.int .i64 p.atoms,ae p.rules]),.cells false (m*1) (aM L')] g:=fun R _ g=>by rw[hoS];exact ih.on R t m L' g ht24 hL' hmL hmm h
    refine dN (nt:=47) (rs:=[]) (k0:=5) (by kernel_rfl) (by kernel_rfl) (by kernel_rfl) rfl ?_
    refine vcQ [[0,1,0],[0,1,1,1,1]] (lkL [(0,[0,1,2,4,5,6,9]),(1,[0,1,2,4,5,6,14]),(2,[0,1,4,5])]) (lkL [(2,[(4,ROrc.call (tup 0 (nth [])) [cells false 1 fun (x:Nat)=>ow true 5 m 1,cells false 1 fun (x:Nat)=>int i64 (most:Int),cells false 1 fun (x:Nat)=>ah O,cells false 1 fun (x:Nat)=>fn 78 0 (nth []) 5 (nth [ref 0 0,ref 1 0,ref 2 0,ref 3 0,ref 4 0]),cells false 2 (nth [int i64 p.atoms,ae p.rules]),cells false (m*1) (aM L')] g)]),(3,[(8,ROrc.pcall (int u64 (↑(2^(O.l.getD k 0).toNat):Int))),(10,ROrc.callS (tup 0 (nth [])) [(2,cells false 1 fun (x:Nat)=>ah O),(5,cells false (m*1) (aM L'))] g)])]) (fun Q=>(fun (u1:List AObj)=>(fun (u2:List AObj)=>(fun (u3:Int)=>(fun (u4:Int)=>(fun (u5:Bool)=>1<=1/\1<=1/\(u5=true->Wp Tryd.prog R 47 5 Rd.top (az Tryd.prog 78) [0,1,0] (aV Tryd.prog R 47 5 Rd.top (az Tryd.prog 78) Q [Kont.blk 0]) (St.mk [(0,int i64 u4),(1,int u64 (s:Int)),(2,ref 0 0),(4,ref 2 0),(5,ref 3 0),(6,ref 4 0),(9,AV.bool u5)] u2 g))/\(u5=false->1<=1/\(decide (u4<u3)=true->1<=1/\(-9223372036854775808<=u4+1/\u4+1<=9223372036854775807)/\(true=true/\Does Tryd.prog R 78 [int i64 (u4+1),int u64 (s:Int),ref 0 0,ref 1 0,ref 2 0,ref 3 0,ref 4 0] u2 g (ret (tup 0 (nth []))) u1 g)/\Tables.follows Tryd.prog.toTables Departure.mixedOrders=true/\1<=1/\(-9223372036854775808<=u4+1/\u4+1<=9223372036854775807)/\1<=1/\(0<=u4/\u4<u3)/\1<=1/\(∀(hp:List AObj) (g:R.σ),true=true/\Does Tryd.prog R 79 [af O.l k] hp g (ret (int u64 (↑(2^(O.l.getD k 0).toNat):Int))) hp g)/\(true=true/\Does Tryd.prog R 78 [int i64 (u4+1),int u64 (IntKind.wrap u64 (↑(BitVec.toNat (BitVec.ofInt 64 (s:Int)|||BitVec.ofInt 64 (↑(2^(O.l.getD k 0).toNat):Int))):Int)),ref 0 0,ref 1 0,ref 2 0,ref 3 0,ref 4 0] u1 g (ret (tup 0 (nth []))) u1 g)/\Q AEx.normal (St.mk [] u1 g))/\(decide (u4<u3)=false->Wp Tryd.prog R 47 5 Rd.top (az Tryd.prog 78) [0,1,1,1,1] (aV Tryd.prog R 47 5 Rd.top (az Tryd.prog 78) Q [Kont.blk 0]) (St.mk [(0,int i64 u4),(1,int u64 (s:Int)),(2,ref 0 0),(4,ref 2 0),(5,ref 3 0),(6,ref 4 0),(14,AV.bool (decide (u4<u3)))] u2 g)))) ((↑0:Int)==(most:Int))) ((k:Int))) ((O.l.length:Int))) ([cells false 1 fun (x:Nat)=>fz Fz.nil 0 0 fun _ _=>any,cells false 1 fun (x:Nat)=>int i64 (most:Int),cells false 1 fun (x:Nat)=>fz O.2 1 (O.l.length) fun (i x:Nat)=>af O.l i,cells false 1 fun (x:Nat)=>fn 78 0 (nth []) 5 (nth [ref 0 0,ref 1 0,ref 2 0,ref 3 0,ref 4 0]),cells false 2 (nth [int i64 p.atoms,ae p.rules])])) ([cells false 1 fun (x:Nat)=>ow true 5 m 1,cells false 1 fun (x:Nat)=>int i64 (most:Int),cells false 1 fun (x:Nat)=>fz O.2 1 (O.l.length) fun (i x:Nat)=>af O.l i,cells false 1 fun (x:Nat)=>fn 78 0 (nth []) 5 (nth [ref 0 0,ref 1 0,ref 2 0,ref 3 0,ref 4 0]),cells false 2 (nth [int i64 p.atoms,ae p.rules]),cells false (m*1) fun (a:Nat)=>fz Fz.auto 1 ((ai (L'.getD a 0)).l.length) fun (i x:Nat)=>af (ai (L'.getD a 0)).l i])) (fun _=>by kernel_rfl) ⟨by omega,by omega,fun hcc=>(nomatch (hz.symm.trans hcc)),fun _=>⟨by omega,fun _=>⟨by omega,by omega,⟨rfl,(i1 _ _)⟩,by kernel_rfl,by omega,by omega,by omega,by omega,by omega,(fun _ _=>⟨rfl,(d6 _ _ (by omega) _ _)⟩),⟨rfl,(i2 _ _)⟩,?_⟩,fun hcc=>(nomatch (hb.symm.trans hcc))⟩⟩
    refine(av (aX _ _ rfl trivial rfl rfl rfl) (AM _))
   ·have i2:∀(R:Res) [Tab LT R] (g:R.σ),Does Tryd.prog R 78 [.int .i64 ((k:Int)+1),.int .u64 (IntKind.u64.wrap ((BitVec.ofInt 64 (s:Int)|||BitVec.ofInt 64 ((2^(O.l.getD k 0).toNat:Nat):Int)).toNat:Int)),.ref 0 0,.ref 1 0,.ref 2 0,.ref 3 0,.ref 4 0] [.cells false 1 (fun _=>.ow true 5 m 1),.cells false 1 (fun _=>.int .i64 most),.cells false 1 (fun _=>ah O),.cells false 1 (fun _=>.fn 78 0 (nth []) 5 (nth [.ref 0 0,.ref 1 0,.ref 2 0,.ref 3 0,.ref 4 0])),.cells false 2 (nth [.int .i64 p.atoms,ae p.rules]),.cells false (m*1) (aM L)] g (.ret (.tup 0 (nth []))) [.cells false 1 (fun _=>.ow true 6 m' 1),.cells false 1 (fun _=>.int .i64 most),.cells false 1 (fun _=>ah O),.cells false 1 (fun _=>.fn 78 0 (nth []) 5 (nth [.ref 0 0,.ref 1 0,.ref 2 0,.ref 3 0,.ref 4 0])),.cells false 2 (nth [.int .i64 p.atoms,ae p.rules]),.dead,.cells false (m'*1) (aM L')] g:=fun R _ g=>by rw[hoS];exact ih.ow R t m m' L L' g ht24 e hmL hmm h hm' hmm1
    refine dN (nt:=47) (rs:=[]) (k0:=5) (by kernel_rfl) (by kernel_rfl) (by kernel_rfl) rfl ?_
    refine vcQ [[0,1,0],[0,1,1,1,1]] (lkL [(0,[0,1,2,4,5,6,9]),(1,[0,1,2,4,5,6,14]),(2,[0,1,4,5])]) (lkL [(2,[(4,ROrc.call (tup 0 (nth [])) [cells false 1 fun (x:Nat)=>ow true 5 m 1,cells false 1 fun (x:Nat)=>int i64 (most:Int),cells false 1 fun (x:Nat)=>ah O,cells false 1 fun (x:Nat)=>fn 78 0 (nth []) 5 (nth [ref 0 0,ref 1 0,ref 2 0,ref 3 0,ref 4 0]),cells false 2 (nth [int i64 p.atoms,ae p.rules]),cells false (m*1) (aM L)] g)]),(3,[(8,ROrc.pcall (int u64 (↑(2^(O.l.getD k 0).toNat):Int))),(10,ROrc.callN (tup 0 (nth [])) [(0,cells false 1 fun (x:Nat)=>ow true 6 m' 1),(2,cells false 1 fun (x:Nat)=>ah O),(5,dead)] [cells false (m'*1) (aM L')] g)])]) (fun Q=>(fun (u1:List AObj)=>(fun (u2:List AObj)=>(fun (u3:List AObj)=>(fun (u4:Int)=>(fun (u5:Int)=>(fun (u6:Bool)=>1<=1/\1<=1/\(u6=true->Wp Tryd.prog R 47 5 Rd.top (az Tryd.prog 78) [0,1,0] (aV Tryd.prog R 47 5 Rd.top (az Tryd.prog 78) Q [Kont.blk 0]) (St.mk [(0,int i64 u5),(1,int u64 (s:Int)),(2,ref 0 0),(4,ref 2 0),(5,ref 3 0),(6,ref 4 0),(9,AV.bool u6)] u1 g))/\(u6=false->1<=1/\(decide (u5<u4)=true->1<=1/\(-9223372036854775808<=u5+1/\u5+1<=9223372036854775807)/\(true=true/\Does Tryd.prog R 78 [int i64 (u5+1),int u64 (s:Int),ref 0 0,ref 1 0,ref 2 0,ref 3 0,ref 4 0] u1 g (ret (tup 0 (nth []))) u3 g)/\Tables.follows Tryd.prog.toTables Departure.mixedOrders=true/\1<=1/\(-9223372036854775808<=u5+1/\u5+1<=9223372036854775807)/\1<=1/\(0<=u5/\u5<u4)/\1<=1/\(∀(hp:List AObj) (g:R.σ),true=true/\Does Tryd.prog R 79 [af O.l k] hp g (ret (int u64 (↑(2^(O.l.getD k 0).toNat):Int))) hp g)/\(true=true/\Does Tryd.prog R 78 [int i64 (u5+1),int u64 (IntKind.wrap u64 (↑(BitVec.toNat (BitVec.ofInt 64 (s:Int)|||BitVec.ofInt 64 (↑(2^(O.l.getD k 0).toNat):Int))):Int)),ref 0 0,ref 1 0,ref 2 0,ref 3 0,ref 4 0] u3 g (ret (tup 0 (nth []))) u2 g)/\Q AEx.normal (St.mk [] u2 g))/\(decide (u5<u4)=false->Wp Tryd.prog R 47 5 Rd.top (az Tryd.prog 78) [0,1,1,1,1] (aV Tryd.prog R 47 5 Rd.top (az Tryd.prog 78) Q [Kont.blk 0]) (St.mk [(0,int i64 u5),(1,int u64 (s:Int)),(2,ref 0 0),(4,ref 2 0),(5,ref 3 0),(6,ref 4 0),(14,AV.bool (decide (u5<u4)))] u1 g)))) ((↑0:Int)==(most:Int))) ((k:Int))) ((O.l.length:Int))) ([cells false 1 fun (x:Nat)=>ow true 5 m 1,cells false 1 fun (x:Nat)=>int i64 (most:Int),cells false 1 fun (x:Nat)=>fz O.2 1 (O.l.length) fun (i x:Nat)=>af O.l i,cells false 1 fun (x:Nat)=>fn 78 0 (nth []) 5 (nth [ref 0 0,ref 1 0,ref 2 0,ref 3 0,ref 4 0]),cells false 2 (nth [int i64 p.atoms,ae p.rules]),cells false (m*1) fun (a:Nat)=>fz Fz.auto 1 ((ai (L.getD a 0)).l.length) fun (i x:Nat)=>af (ai (L.getD a 0)).l i])) ([cells false 1 fun (x:Nat)=>ow true 6 m' 1,cells false 1 fun (x:Nat)=>int i64 (most:Int),cells false 1 fun (x:Nat)=>fz O.2 1 (O.l.length) fun (i x:Nat)=>af O.l i,cells false 1 fun (x:Nat)=>fn 78 0 (nth []) 5 (nth [ref 0 0,ref 1 0,ref 2 0,ref 3 0,ref 4 0]),cells false 2 (nth [int i64 p.atoms,ae p.rules]),dead,cells false (m'*1) fun (a:Nat)=>fz Fz.auto 1 ((ai (L'.getD a 0)).l.length) fun (i x:Nat)=>af (ai (L'.getD a 0)).l i])) ([cells false 1 fun (x:Nat)=>fz Fz.nil 0 0 fun _ _=>any,cells false 1 fun (x:Nat)=>int i64 (most:Int),cells false 1 fun (x:Nat)=>fz O.2 1 (O.l.length) fun (i x:Nat)=>af O.l i,cells false 1 fun (x:Nat)=>fn 78 0 (nth []) 5 (nth [ref 0 0,ref 1 0,ref 2 0,ref 3 0,ref 4 0]),cells false 2 (nth [int i64 p.atoms,ae p.rules])])) (fun _=>by kernel_rfl) ⟨by omega,by omega,fun hcc=>(nomatch (hz.symm.trans hcc)),fun _=>⟨by omega,fun _=>⟨by omega,by omega,⟨rfl,(i1 _ _)⟩,by kernel_rfl,by omega,by omega,by omega,by omega,by omega,(fun _ _=>⟨rfl,(d6 _ _ (by omega) _ _)⟩),⟨rfl,(i2 _ _)⟩,?_⟩,fun hcc=>(nomatch (hb.symm.trans hcc))⟩⟩
    refine l9 (.tup 0 (nth [])) _ rfl trivial ?_
    refine ej [0,1,2,3,4,6] 7 ?_ ?_ ?_ ?_ ?_ ?_ ?_
    ·rfl
    ·rfl
    ·rfl
    ·rfl
    ·rfl
    ·exact⟨AM _,trivial⟩
    ·exact⟨⟨rfl,Nat.le_refl _,fun j hj=>AM _⟩,AP _,AP _,⟨rfl,Nat.le_refl _,fun j hj=>mb⟩,⟨rfl,Nat.le_refl _,fun j hj=>match j,hj with|0,_=>AM _|1,_=>bp (by exact trivial)⟩,⟨rfl,Nat.le_refl _,fun j hj=>AM _⟩,trivial⟩
 ·intro R _ s m L g hs hL hmL hmm h
  rw[e0] at h
  have h0:0<m:=by rw[hmL];exact List.length_pos_iff.2 hL
  by_cases hf:m=most
  ·have hz:((m:Int)==(most:Int))=true:=by rw[beq_iff_eq];omega
   refine dN (nt:=47) (rs:=[]) (k0:=6) (by kernel_rfl) (by kernel_rfl) (by kernel_rfl) rfl ?_
   refine vcQ [[0,1,1]] (lkL [(0,[0,1,2,4,5,6,9])]) (fun _=>[]) (fun Q=>(fun (u1:St R.σ)=>1<=1/\1<=1/\(((m:Int)==(most:Int))=true->Q AEx.normal u1)/\(((m:Int)==(most:Int))=false->Wp Tryd.prog R 47 6 Rd.top (az Tryd.prog 78) [0,1,1] (aV Tryd.prog R 47 6 Rd.top (az Tryd.prog 78) Q [Kont.blk 0]) u1)) (St.mk [(0,int i64 (k:Int)),(1,int u64 (s:Int)),(2,ref 0 0),(4,ref 2 0),(5,ref 3 0),(6,ref 4 0),(9,AV.bool ((m:Int)==(most:Int)))] [cells false 1 fun (x:Nat)=>ow true 5 m 1,cells false 1 fun (x:Nat)=>int i64 (most:Int),cells false 1 fun (x:Nat)=>fz O.2 1 (O.l.length) fun (i x:Nat)=>af O.l i,cells false 1 fun (x:Nat)=>fn 78 0 (nth []) 5 (nth [ref 0 0,ref 1 0,ref 2 0,ref 3 0,ref 4 0]),cells false 2 (nth [int i64 p.atoms,ae p.rules]),cells false (m*1) fun (a:Nat)=>fz Fz.auto 1 ((ai (L.getD a 0)).l.length) fun (i x:Nat)=>af (ai (L.getD a 0)).l i] g)) (fun _=>by kernel_rfl) ⟨by omega,by omega,fun _=>?_,fun hcc=>(nomatch (hz.symm.trans hcc))⟩
   refine(av (aX _ _ rfl trivial rfl rfl rfl) (AM _))
  ·have hz:((m:Int)==(most:Int))=false:=by rw[beq_eq_false_iff_ne];omega
   rw[if_neg (by omega)] at h
   obtain⟨t,ht⟩:∃t,s|||2^(O.l.getD k 0).toNat=t:=⟨_,rfl⟩
   have ht24:t<2^24:=by rw[<-ht];exact hor24 s hs
   have hoS:=(hor s hs).trans (congrArg (fun n:Nat=>(n:Int)) ht)
   rw[ht] at h
   have hlen:=eM (p:=p) (most:=most) (r:=r) (s:=s) (out:=L) (by omega)
   have hlen2:=eM (p:=p) (most:=most) (r:=r) (s:=t) (out:=stF p most r s L) hlen.2.1
   rw[h] at hlen2
   have hL1:=hlen.2.2 (by omega)
   rw[hL1] at h
   have i1:=fun (R:Res) [Tab LT R] (g:R.σ)=>ih.on R s m L g hs hL hmL hmm hL1
   have i2:∀(R:Res) [Tab LT R] (g:R.σ),Does Tryd.prog R 78 [.int .i64 ((k:Int)+1),.int .u64 (IntKind.u64.wrap ((BitVec.ofInt 64 (s:Int)|||BitVec.ofInt 64 ((2^(O.l.getD k 0).toNat:Nat):Int)).toNat:Int)),.ref 0 0,.ref 1 0,.ref 2 0,.ref 3 0,.ref 4 0] [.cells false 1 (fun _=>.ow true 5 m 1),.cells false 1 (fun _=>.int .i64 most),.cells false 1 (fun _=>ah O),.cells false 1 (fun _=>.fn 78 0 (nth []) 5 (nth [.ref 0 0,.ref 1 0,.ref 2 0,.ref 3 0,.ref 4 0])),.cells false 2 (nth [.int .i64 p.atoms,ae p.rules]),.cells false (m*1) (aM L)] g (.ret (.tup 0 (nth []))) [.cells false 1 (fun _=>.ow true 5 m 1),.cells false 1 (fun _=>.int .i64 most),.cells false 1 (fun _=>ah O),.cells false 1 (fun _=>.fn 78 0 (nth []) 5 (nth [.ref 0 0,.ref 1 0,.ref 2 0,.ref 3 0,.ref 4 0])),.cells false 2 (nth [.int .i64 p.atoms,ae p.rules]),.cells false (m*1) (aM L)] g:=fun R _ g=>by rw[hoS];exact ih.on R t m L g ht24 hL hmL hmm h
   refine dN (nt:=47) (rs:=[]) (k0:=6) (by kernel_rfl) (by kernel_rfl) (by kernel_rfl) rfl ?_
   refine vcQ [[0,1,0],[0,1,1,1,1]] (lkL [(0,[0,1,2,4,5,6,9]),(1,[0,1,2,4,5,6,14]),(2,[0,1,4,5])]) (lkL [(2,[(4,ROrc.call (tup 0 (nth [])) [cells false 1 fun (x:Nat)=>ow true 5 m 1,cells false 1 fun (x:Nat)=>int i64 (most:Int),cells false 1 fun (x:Nat)=>ah O,cells false 1 fun (x:Nat)=>fn 78 0 (nth []) 5 (nth [ref 0 0,ref 1 0,ref 2 0,ref 3 0,ref 4 0]),cells false 2 (nth [int i64 p.atoms,ae p.rules]),cells false (m*1) (aM L)] g)]),(3,[(8,ROrc.pcall (int u64 (↑(2^(O.l.getD k 0).toNat):Int))),(10,ROrc.callS (tup 0 (nth [])) [(2,cells false 1 fun (x:Nat)=>ah O),(5,cells false (m*1) (aM L))] g)])]) (fun Q=>(fun (u1:List AObj)=>(fun (u2:Int)=>(fun (u3:Int)=>(fun (u4:Bool)=>1<=1/\1<=1/\(u4=true->Wp Tryd.prog R 47 6 Rd.top (az Tryd.prog 78) [0,1,0] (aV Tryd.prog R 47 6 Rd.top (az Tryd.prog 78) Q [Kont.blk 0]) (St.mk [(0,int i64 u3),(1,int u64 (s:Int)),(2,ref 0 0),(4,ref 2 0),(5,ref 3 0),(6,ref 4 0),(9,AV.bool u4)] u1 g))/\(u4=false->1<=1/\(decide (u3<u2)=true->1<=1/\(-9223372036854775808<=u3+1/\u3+1<=9223372036854775807)/\(true=true/\Does Tryd.prog R 78 [int i64 (u3+1),int u64 (s:Int),ref 0 0,ref 1 0,ref 2 0,ref 3 0,ref 4 0] u1 g (ret (tup 0 (nth []))) u1 g)/\Tables.follows Tryd.prog.toTables Departure.mixedOrders=true/\1<=1/\(-9223372036854775808<=u3+1/\u3+1<=9223372036854775807)/\1<=1/\(0<=u3/\u3<u2)/\1<=1/\(∀(hp:List AObj) (g:R.σ),true=true/\Does Tryd.prog R 79 [af O.l k] hp g (ret (int u64 (↑(2^(O.l.getD k 0).toNat):Int))) hp g)/\(true=true/\Does Tryd.prog R 78 [int i64 (u3+1),int u64 (IntKind.wrap u64 (↑(BitVec.toNat (BitVec.ofInt 64 (s:Int)|||BitVec.ofInt 64 (↑(2^(O.l.getD k 0).toNat):Int))):Int)),ref 0 0,ref 1 0,ref 2 0,ref 3 0,ref 4 0] u1 g (ret (tup 0 (nth []))) u1 g)/\Q AEx.normal (St.mk [] u1 g))/\(decide (u3<u2)=false->Wp Tryd.prog R 47 6 Rd.top (az Tryd.prog 78) [0,1,1,1,1] (aV Tryd.prog R 47 6 Rd.top (az Tryd.prog 78) Q [Kont.blk 0]) (St.mk [(0,int i64 u3),(1,int u64 (s:Int)),(2,ref 0 0),(4,ref 2 0),(5,ref 3 0),(6,ref 4 0),(14,AV.bool (decide (u3<u2)))] u1 g)))) ((m:Int)==(most:Int))) ((k:Int))) ((O.l.length:Int))) ([cells false 1 fun (x:Nat)=>ow true 5 m 1,cells false 1 fun (x:Nat)=>int i64 (most:Int),cells false 1 fun (x:Nat)=>fz O.2 1 (O.l.length) fun (i x:Nat)=>af O.l i,cells false 1 fun (x:Nat)=>fn 78 0 (nth []) 5 (nth [ref 0 0,ref 1 0,ref 2 0,ref 3 0,ref 4 0]),cells false 2 (nth [int i64 p.atoms,ae p.rules]),cells false (m*1) fun (a:Nat)=>fz Fz.auto 1 ((ai (L.getD a 0)).l.length) fun (i x:Nat)=>af (ai (L.getD a 0)).l i])) (fun _=>by kernel_rfl) ⟨by omega,by omega,fun hcc=>(nomatch (hz.symm.trans hcc)),fun _=>⟨by omega,fun _=>⟨by omega,by omega,⟨rfl,(i1 _ _)⟩,by kernel_rfl,by omega,by omega,by omega,by omega,by omega,(fun _ _=>⟨rfl,(d6 _ _ (by omega) _ _)⟩),⟨rfl,(i2 _ _)⟩,?_⟩,fun hcc=>(nomatch (hb.symm.trans hcc))⟩⟩
   refine(av (aX _ _ rfl trivial rfl rfl rfl) (AM _))
 ·intro R _ s m m' L L' g hs hL hmL hmm h hm' hne
  rw[e0] at h
  have h0:0<m:=by rw[hmL];exact List.length_pos_iff.2 hL
  have hf:¬m=most:=fun e=>by
   rw[if_pos (by omega)] at h
   subst h
   omega
  have hz:((m:Int)==(most:Int))=false:=by rw[beq_eq_false_iff_ne];omega
  rw[if_neg (by omega)] at h
  obtain⟨t,ht⟩:∃t,s|||2^(O.l.getD k 0).toNat=t:=⟨_,rfl⟩
  have ht24:t<2^24:=by rw[<-ht];exact hor24 s hs
  have hoS:=(hor s hs).trans (congrArg (fun n:Nat=>(n:Int)) ht)
  rw[ht] at h
  have hlen:=eM (p:=p) (most:=most) (r:=r) (s:=s) (out:=L) (by omega)
  obtain⟨L1,hL1⟩:∃L1,stF p most r s L=L1:=⟨_,rfl⟩
  obtain⟨m1,hm1⟩:∃m1,m1=L1.length:=⟨_,rfl⟩
  rw[hL1] at h hlen
  have hlen2:=eM (p:=p) (most:=most) (r:=r) (s:=t) (out:=L1) hlen.2.1
  rw[h] at hlen2
  have h01:0<m1:=by omega
  have h0':0<m':=by omega
  have hmm1:m1<=most:=by omega
  have hmm':m'<=most:=by omega
  have hL1n:L1≠[]:=List.length_pos_iff.1 (by omega)
  by_cases e1:m=m1
  ·have hLL:L1=L:=hlen.2.2 (by omega)
   subst hLL
   have i1:=fun (R:Res) [Tab LT R] (g:R.σ)=>ih.on R s m L1 g hs hL hmL hmm hL1
   have i2:∀(R:Res) [Tab LT R] (g:R.σ),Does Tryd.prog R 78 [.int .i64 ((k:Int)+1),.int .u64 (IntKind.u64.wrap ((BitVec.ofInt 64 (s:Int)|||BitVec.ofInt 64 ((2^(O.l.getD k 0).toNat:Nat):Int)).toNat:Int)),.ref 0 0,.ref 1 0,.ref 2 0,.ref 3 0,.ref 4 0] [.cells false 1 (fun _=>.ow true 5 m 1),.cells false 1 (fun _=>.int .i64 most),.cells false 1 (fun _=>ah O),.cells false 1 (fun _=>.fn 78 0 (nth []) 5 (nth [.ref 0 0,.ref 1 0,.ref 2 0,.ref 3 0,.ref 4 0])),.cells false 2 (nth [.int .i64 p.atoms,ae p.rules]),.cells false (m*1) (aM L1)] g (.ret (.tup 0 (nth []))) [.cells false 1 (fun _=>.ow true 6 m' 1),.cells false 1 (fun _=>.int .i64 most),.cells false 1 (fun _=>ah O),.cells false 1 (fun _=>.fn 78 0 (nth []) 5 (nth [.ref 0 0,.ref 1 0,.ref 2 0,.ref 3 0,.ref 4 0])),.cells false 2 (nth [.int .i64 p.atoms,ae p.rules]),.dead,.cells false (m'*1) (aM L')] g:=fun R _ g=>by rw[hoS];exact ih.ow R t m m' L1 L' g ht24 hL hmL hmm h hm' hne
   refine dN (nt:=47) (rs:=[]) (k0:=6) (by kernel_rfl) (by kernel_rfl) (by kernel_rfl) rfl ?_
   refine vcQ [[0,1,0],[0,1,1,1,1]] (lkL [(0,[0,1,2,4,5,6,9]),(1,[0,1,2,4,5,6,14]),(2,[0,1,4,5])]) (lkL [(2,[(4,ROrc.call (tup 0 (nth [])) [cells false 1 fun (x:Nat)=>ow true 5 m 1,cells false 1 fun (x:Nat)=>int i64 (most:Int),cells false 1 fun (x:Nat)=>ah O,cells false 1 fun (x:Nat)=>fn 78 0 (nth []) 5 (nth [ref 0 0,ref 1 0,ref 2 0,ref 3 0,ref 4 0]),cells false 2 (nth [int i64 p.atoms,ae p.rules]),cells false (m*1) (aM L1)] g)]),(3,[(8,ROrc.pcall (int u64 (↑(2^(O.l.getD k 0).toNat):Int))),(10,ROrc.callN (tup 0 (nth [])) [(0,cells false 1 fun (x:Nat)=>ow true 6 m' 1),(2,cells false 1 fun (x:Nat)=>ah O),(5,dead)] [cells false (m'*1) (aM L')] g)])]) (fun Q=>(fun (u1:List AObj)=>(fun (u2:List AObj)=>(fun (u3:Int)=>(fun (u4:Int)=>(fun (u5:Bool)=>1<=1/\1<=1/\(u5=true->Wp Tryd.prog R 47 6 Rd.top (az Tryd.prog 78) [0,1,0] (aV Tryd.prog R 47 6 Rd.top (az Tryd.prog 78) Q [Kont.blk 0]) (St.mk [(0,int i64 u4),(1,int u64 (s:Int)),(2,ref 0 0),(4,ref 2 0),(5,ref 3 0),(6,ref 4 0),(9,AV.bool u5)] u1 g))/\(u5=false->1<=1/\(decide (u4<u3)=true->1<=1/\(-9223372036854775808<=u4+1/\u4+1<=9223372036854775807)/\(true=true/\Does Tryd.prog R 78 [int i64 (u4+1),int u64 (s:Int),ref 0 0,ref 1 0,ref 2 0,ref 3 0,ref 4 0] u1 g (ret (tup 0 (nth []))) u1 g)/\Tables.follows Tryd.prog.toTables Departure.mixedOrders=true/\1<=1/\(-9223372036854775808<=u4+1/\u4+1<=9223372036854775807)/\1<=1/\(0<=u4/\u4<u3)/\1<=1/\(∀(hp:List AObj) (g:R.σ),true=true/\Does Tryd.prog R 79 [af O.l k] hp g (ret (int u64 (↑(2^(O.l.getD k 0).toNat):Int))) hp g)/\(true=true/\Does Tryd.prog R 78 [int i64 (u4+1),int u64 (IntKind.wrap u64 (↑(BitVec.toNat (BitVec.ofInt 64 (s:Int)|||BitVec.ofInt 64 (↑(2^(O.l.getD k 0).toNat):Int))):Int)),ref 0 0,ref 1 0,ref 2 0,ref 3 0,ref 4 0] u1 g (ret (tup 0 (nth []))) u2 g)/\Q AEx.normal (St.mk [] u2 g))/\(decide (u4<u3)=false->Wp Tryd.prog R 47 6 Rd.top (az Tryd.prog 78) [0,1,1,1,1] (aV Tryd.prog R 47 6 Rd.top (az Tryd.prog 78) Q [Kont.blk 0]) (St.mk [(0,int i64 u4),(1,int u64 (s:Int)),(2,ref 0 0),(4,ref 2 0),(5,ref 3 0),(6,ref 4 0),(14,AV.bool (decide (u4<u3)))] u1 g)))) ((m:Int)==(most:Int))) ((k:Int))) ((O.l.length:Int))) ([cells false 1 fun (x:Nat)=>ow true 6 m' 1,cells false 1 fun (x:Nat)=>int i64 (most:Int),cells false 1 fun (x:Nat)=>fz O.2 1 (O.l.length) fun (i x:Nat)=>af O.l i,cells false 1 fun (x:Nat)=>fn 78 0 (nth []) 5 (nth [ref 0 0,ref 1 0,ref 2 0,ref 3 0,ref 4 0]),cells false 2 (nth [int i64 p.atoms,ae p.rules]),dead,cells false (m'*1) fun (a:Nat)=>fz Fz.auto 1 ((ai (L'.getD a 0)).l.length) fun (i x:Nat)=>af (ai (L'.getD a 0)).l i])) ([cells false 1 fun (x:Nat)=>ow true 5 m 1,cells false 1 fun (x:Nat)=>int i64 (most:Int),cells false 1 fun (x:Nat)=>fz O.2 1 (O.l.length) fun (i x:Nat)=>af O.l i,cells false 1 fun (x:Nat)=>fn 78 0 (nth []) 5 (nth [ref 0 0,ref 1 0,ref 2 0,ref 3 0,ref 4 0]),cells false 2 (nth [int i64 p.atoms,ae p.rules]),cells false (m*1) fun (a:Nat)=>fz Fz.auto 1 ((ai (L1.getD a 0)).l.length) fun (i x:Nat)=>af (ai (L1.getD a 0)).l i])) (fun _=>by kernel_rfl) ⟨by omega,by omega,fun hcc=>(nomatch (hz.symm.trans hcc)),fun _=>⟨by omega,fun _=>⟨by omega,by omega,⟨rfl,(i1 _ _)⟩,by kernel_rfl,by omega,by omega,by omega,by omega,by omega,(fun _ _=>⟨rfl,(d6 _ _ (by omega) _ _)⟩),⟨rfl,(i2 _ _)⟩,?_⟩,fun hcc=>(nomatch (hb.symm.trans hcc))⟩⟩
   refine(av (aX _ _ rfl trivial rfl rfl rfl) (AM _))
  ·have i1:=fun (R:Res) [Tab LT R] (g:R.σ)=>ih.ow R s m m1 L L1 g hs hL hmL hmm hL1 hm1 e1
   by_cases e2:m1=m'
   ·have hLL:L'=L1:=hlen2.2.2 (by omega)
    subst hLL
    subst e2
    have i2:∀(R:Res) [Tab LT R] (g:R.σ),Does Tryd.prog R 78 [.int .i64 ((k:Int)+1),.int .u64 (IntKind.u64.wrap ((BitVec.ofInt 64 (s:Int)|||BitVec.ofInt 64 ((2^(O.l.getD k 0).toNat:Nat):Int)).toNat:Int)),.ref 0 0,.ref 1 0,.ref 2 0,.ref 3 0,.ref 4 0] [.cells false 1 (fun _=>.ow true 5 m1 1),.cells false 1 (fun _=>.int .i64 most),.cells false 1 (fun _=>ah O),.cells false 1 (fun _=>.fn 78 0 (nth []) 5 (nth [.ref 0 0,.ref 1 0,.ref 2 0,.ref 3 0,.ref 4 0])),.cells false 2 (nth [.int .i64 p.atoms,ae p.rules]),.cells false (m1*1) (aM L')] g (.ret (.tup 0 (nth []))) [.cells false 1 (fun _=>.ow true 5 m1 1),.cells false 1 (fun _=>.int .i64 most),.cells false 1 (fun _=>ah O),.cells false 1 (fun _=>.fn 78 0 (nth []) 5 (nth [.ref 0 0,.ref 1 0,.ref 2 0,.ref 3 0,.ref 4 0])),.cells false 2 (nth [.int .i64 p.atoms,ae p.rules]),.cells false (m1*1) (aM L')] g:=fun R _ g=>by rw[hoS];exact ih.on R t m1 L' g ht24 hL1n hm1 hmm1 h
    refine dN (nt:=47) (rs:=[]) (k0:=6) (by kernel_rfl) (by kernel_rfl) (by kernel_rfl) rfl ?_
    refine vcQ [[0,1,0],[0,1,1,1,1]] (lkL [(0,[0,1,2,4,5,6,9]),(1,[0,1,2,4,5,6,14]),(2,[0,1,4,5])]) (lkL [(2,[(4,ROrc.call (tup 0 (nth [])) [cells false 1 fun (x:Nat)=>ow true 6 m1 1,cells false 1 fun (x:Nat)=>int i64 (most:Int),cells false 1 fun (x:Nat)=>ah O,cells false 1 fun (x:Nat)=>fn 78 0 (nth []) 5 (nth [ref 0 0,ref 1 0,ref 2 0,ref 3 0,ref 4 0]),cells false 2 (nth [int i64 p.atoms,ae p.rules]),dead,cells false (m1*1) (aM L')] g)]),(3,[(8,ROrc.pcall (int u64 (↑(2^(O.l.getD k 0).toNat):Int))),(10,ROrc.kcall (tup 0 (nth [])))])]) (fun Q=>(fun (u1:List AObj)=>(fun (u2:List AObj)=>(fun (u3:Int)=>(fun (u4:Int)=>(fun (u5:Bool)=>1<=1/\1<=1/\(u5=true->Wp Tryd.prog R 47 6 Rd.top (az Tryd.prog 78) [0,1,0] (aV Tryd.prog R 47 6 Rd.top (az Tryd.prog 78) Q [Kont.blk 0]) (St.mk [(0,int i64 u4),(1,int u64 (s:Int)),(2,ref 0 0),(4,ref 2 0),(5,ref 3 0),(6,ref 4 0),(9,AV.bool u5)] u2 g))/\(u5=false->1<=1/\(decide (u4<u3)=true->1<=1/\(-9223372036854775808<=u4+1/\u4+1<=9223372036854775807)/\(true=true/\Does Tryd.prog R 78 [int i64 (u4+1),int u64 (s:Int),ref 0 0,ref 1 0,ref 2 0,ref 3 0,ref 4 0] u2 g (ret (tup 0 (nth []))) u1 g)/\Tables.follows Tryd.prog.toTables Departure.mixedOrders=true/\1<=1/\(-9223372036854775808<=u4+1/\u4+1<=9223372036854775807)/\1<=1/\(0<=u4/\u4<u3)/\1<=1/\(∀(hp:List AObj) (g:R.σ),true=true/\Does Tryd.prog R 79 [af O.l k] hp g (ret (int u64 (↑(2^(O.l.getD k 0).toNat):Int))) hp g)/\(true=true/\Does Tryd.prog R 78 [int i64 (u4+1),int u64 (IntKind.wrap u64 (↑(BitVec.toNat (BitVec.ofInt 64 (s:Int)|||BitVec.ofInt 64 (↑(2^(O.l.getD k 0).toNat):Int))):Int)),ref 0 0,ref 1 0,ref 2 0,ref 3 0,ref 4 0] u1 g (ret (tup 0 (nth []))) u1 g)/\Q AEx.normal (St.mk [] u1 g))/\(decide (u4<u3)=false->Wp Tryd.prog R 47 6 Rd.top (az Tryd.prog 78) [0,1,1,1,1] (aV Tryd.prog R 47 6 Rd.top (az Tryd.prog 78) Q [Kont.blk 0]) (St.mk [(0,int i64 u4),(1,int u64 (s:Int)),(2,ref 0 0),(4,ref 2 0),(5,ref 3 0),(6,ref 4 0),(14,AV.bool (decide (u4<u3)))] u2 g)))) ((m:Int)==(most:Int))) ((k:Int))) ((O.l.length:Int))) ([cells false 1 fun (x:Nat)=>ow true 5 m 1,cells false 1 fun (x:Nat)=>int i64 (most:Int),cells false 1 fun (x:Nat)=>fz O.2 1 (O.l.length) fun (i x:Nat)=>af O.l i,cells false 1 fun (x:Nat)=>fn 78 0 (nth []) 5 (nth [ref 0 0,ref 1 0,ref 2 0,ref 3 0,ref 4 0]),cells false 2 (nth [int i64 p.atoms,ae p.rules]),cells false (m*1) fun (a:Nat)=>fz Fz.auto 1 ((ai (L.getD a 0)).l.length) fun (i x:Nat)=>af (ai (L.getD a 0)).l i])) ([cells false 1 fun (x:Nat)=>ow true 6 m1 1,cells false 1 fun (x:Nat)=>int i64 (most:Int),cells false 1 fun (x:Nat)=>fz O.2 1 (O.l.length) fun (i x:Nat)=>af O.l i,cells false 1 fun (x:Nat)=>fn 78 0 (nth []) 5 (nth [ref 0 0,ref 1 0,ref 2 0,ref 3 0,ref 4 0]),cells false 2 (nth [int i64 p.atoms,ae p.rules]),dead,cells false (m1*1) fun (a:Nat)=>fz Fz.auto 1 ((ai (L'.getD a 0)).l.length) fun (i x:Nat)=>af (ai (L'.getD a 0)).l i])) (fun _=>by kernel_rfl) ⟨by omega,by omega,fun hcc=>(nomatch (hz.symm.trans hcc)),fun _=>⟨by omega,fun _=>⟨by omega,by omega,⟨rfl,(i1 _ _)⟩,by kernel_rfl,by omega,by omega,by omega,by omega,by omega,(fun _ _=>⟨rfl,(d6 _ _ (by omega) _ _)⟩),⟨rfl,(el (T:=LT) inferInstance [0,1,2,3,4,6] 7 (fun R _ g=>i2 R g) rfl rfl rfl (by exact⟨⟨rfl,Nat.le_refl _,fun j hj=>match j,hj with|0,_=>(AM _) ⟩,⟨rfl,Nat.le_refl _,fun j hj=>match j,hj with|0,_=>(AM _) ⟩,⟨rfl,Nat.le_refl _,fun j hj=>match j,hj with|0,_=>(AM _) ⟩,⟨rfl,Nat.le_refl _,fun j hj=>match j,hj with|0,_=>(Le.fn (fun i hi=>absurd hi (by omega)) (fun i hi=>match i,hi with|0,_=>(AM _)|1,_=>(AM _)|2,_=>(AM _)|3,_=>(AM _)|4,_=>(AM _) )) ⟩,⟨rfl,Nat.le_refl _,fun j hj=>match j,hj with|0,_=>(AM _)|1,_=>(AM _) ⟩,⟨rfl,Nat.le_refl _,fun j hj=>(by first|exact bp (by first|exact trivial|apply fF)|exact AN (gL rfl).symm)⟩,trivial⟩) (by exact⟨by omega,by omega,by omega,by omega,by omega,by omega,trivial⟩) (by exact⟨bp (by exact trivial),bp (by exact trivial),AM _,AM _,AM _,AM _,AM _,trivial⟩) (by exact bO (by exact trivial)) (by exact⟨⟨rfl,Nat.le_refl _,fun j hj=>match j,hj with|0,_=>(AM _) ⟩,⟨rfl,Nat.le_refl _,fun j hj=>match j,hj with|0,_=>(AM _) ⟩,⟨rfl,Nat.le_refl _,fun j hj=>match j,hj with|0,_=>(AM _) ⟩,⟨rfl,Nat.le_refl _,fun j hj=>match j,hj with|0,_=>(Le.fn (fun i hi=>absurd hi (by omega)) (fun i hi=>match i,hi with|0,_=>(AM _)|1,_=>(AM _)|2,_=>(AM _)|3,_=>(AM _)|4,_=>(AM _) )) ⟩,⟨rfl,Nat.le_refl _,fun j hj=>match j,hj with|0,_=>(AM _)|1,_=>(AM _) ⟩,trivial,⟨rfl,Nat.le_refl _,fun j hj=>(by first|exact bO (by first|exact trivial|apply fF)|exact AN (gL rfl))⟩,trivial⟩))⟩,?_⟩,fun hcc=>(nomatch (hb.symm.trans hcc))⟩⟩
    refine(av (aX _ _ rfl trivial rfl rfl rfl) (AM _))
   ·have i2:∀(R:Res) [Tab LT R] (g:R.σ),Does Tryd.prog R 78 [.int .i64 ((k:Int)+1),.int .u64 (IntKind.u64.wrap ((BitVec.ofInt 64 (s:Int)|||BitVec.ofInt 64 ((2^(O.l.getD k 0).toNat:Nat):Int)).toNat:Int)),.ref 0 0,.ref 1 0,.ref 2 0,.ref 3 0,.ref 4 0] [.cells false 1 (fun _=>.ow true 5 m1 1),.cells false 1 (fun _=>.int .i64 most),.cells false 1 (fun _=>ah O),.cells false 1 (fun _=>.fn 78 0 (nth []) 5 (nth [.ref 0 0,.ref 1 0,.ref 2 0,.ref 3 0,.ref 4 0])),.cells false 2 (nth [.int .i64 p.atoms,ae p.rules]),.cells false (m1*1) (aM L1)] g (.ret (.tup 0 (nth []))) [.cells false 1 (fun _=>.ow true 6 m' 1),.cells false 1 (fun _=>.int .i64 most),.cells false 1 (fun _=>ah O),.cells false 1 (fun _=>.fn 78 0 (nth []) 5 (nth [.ref 0 0,.ref 1 0,.ref 2 0,.ref 3 0,.ref 4 0])),.cells false 2 (nth [.int .i64 p.atoms,ae p.rules]),.dead,.cells false (m'*1) (aM L')] g:=fun R _ g=>by rw[hoS];exact ih.ow R t m1 m' L1 L' g ht24 hL1n hm1 hmm1 h hm' e2
    refine dN (nt:=47) (rs:=[]) (k0:=6) (by kernel_rfl) (by kernel_rfl) (by kernel_rfl) rfl ?_
    refine vcQ [[0,1,0],[0,1,1,1,1]] (lkL [(0,[0,1,2,4,5,6,9]),(1,[0,1,2,4,5,6,14]),(2,[0,1,4,5])]) (lkL [(2,[(4,ROrc.call (tup 0 (nth [])) [cells false 1 fun (x:Nat)=>ow true 6 m1 1,cells false 1 fun (x:Nat)=>int i64 (most:Int),cells false 1 fun (x:Nat)=>ah O,cells false 1 fun (x:Nat)=>fn 78 0 (nth []) 5 (nth [ref 0 0,ref 1 0,ref 2 0,ref 3 0,ref 4 0]),cells false 2 (nth [int i64 p.atoms,ae p.rules]),dead,cells false (m1*1) (aM L1)] g)]),(3,[(8,ROrc.pcall (int u64 (↑(2^(O.l.getD k 0).toNat):Int))),(10,ROrc.callN (tup 0 (nth [])) [(0,cells false 1 fun (j:Nat)=>ow true 7 m' 1),(6,dead)] [cells false (m'*1) (aM L')] g)])]) (fun Q=>(fun (u1:List AObj)=>(fun (u2:List AObj)=>(fun (u3:List AObj)=>(fun (u4:Int)=>(fun (u5:Int)=>(fun (u6:Bool)=>1<=1/\1<=1/\(u6=true->Wp Tryd.prog R 47 6 Rd.top (az Tryd.prog 78) [0,1,0] (aV Tryd.prog R 47 6 Rd.top (az Tryd.prog 78) Q [Kont.blk 0]) (St.mk [(0,int i64 u5),(1,int u64 (s:Int)),(2,ref 0 0),(4,ref 2 0),(5,ref 3 0),(6,ref 4 0),(9,AV.bool u6)] u1 g))/\(u6=false->1<=1/\(decide (u5<u4)=true->1<=1/\(-9223372036854775808<=u5+1/\u5+1<=9223372036854775807)/\(true=true/\Does Tryd.prog R 78 [int i64 (u5+1),int u64 (s:Int),ref 0 0,ref 1 0,ref 2 0,ref 3 0,ref 4 0] u1 g (ret (tup 0 (nth []))) u3 g)/\Tables.follows Tryd.prog.toTables Departure.mixedOrders=true/\1<=1/\(-9223372036854775808<=u5+1/\u5+1<=9223372036854775807)/\1<=1/\(0<=u5/\u5<u4)/\1<=1/\(∀(hp:List AObj) (g:R.σ),true=true/\Does Tryd.prog R 79 [af O.l k] hp g (ret (int u64 (↑(2^(O.l.getD k 0).toNat):Int))) hp g)/\(true=true/\Does Tryd.prog R 78 [int i64 (u5+1),int u64 (IntKind.wrap u64 (↑(BitVec.toNat (BitVec.ofInt 64 (s:Int)|||BitVec.ofInt 64 (↑(2^(O.l.getD k 0).toNat):Int))):Int)),ref 0 0,ref 1 0,ref 2 0,ref 3 0,ref 4 0] u3 g (ret (tup 0 (nth []))) u2 g)/\Q AEx.normal (St.mk [] u2 g))/\(decide (u5<u4)=false->Wp Tryd.prog R 47 6 Rd.top (az Tryd.prog 78) [0,1,1,1,1] (aV Tryd.prog R 47 6 Rd.top (az Tryd.prog 78) Q [Kont.blk 0]) (St.mk [(0,int i64 u5),(1,int u64 (s:Int)),(2,ref 0 0),(4,ref 2 0),(5,ref 3 0),(6,ref 4 0),(14,AV.bool (decide (u5<u4)))] u1 g)))) ((m:Int)==(most:Int))) ((k:Int))) ((O.l.length:Int))) ([cells false 1 fun (x:Nat)=>ow true 6 m1 1,cells false 1 fun (x:Nat)=>int i64 (most:Int),cells false 1 fun (x:Nat)=>fz O.2 1 (O.l.length) fun (i x:Nat)=>af O.l i,cells false 1 fun (x:Nat)=>fn 78 0 (nth []) 5 (nth [ref 0 0,ref 1 0,ref 2 0,ref 3 0,ref 4 0]),cells false 2 (nth [int i64 p.atoms,ae p.rules]),dead,cells false (m1*1) fun (a:Nat)=>fz Fz.auto 1 ((ai (L1.getD a 0)).l.length) fun (i x:Nat)=>af (ai (L1.getD a 0)).l i])) ([cells false 1 fun (j:Nat)=>ow true 7 m' 1,cells false 1 fun (x:Nat)=>int i64 (most:Int),cells false 1 fun (x:Nat)=>fz O.2 1 (O.l.length) fun (i x:Nat)=>af O.l i,cells false 1 fun (x:Nat)=>fn 78 0 (nth []) 5 (nth [ref 0 0,ref 1 0,ref 2 0,ref 3 0,ref 4 0]),cells false 2 (nth [int i64 p.atoms,ae p.rules]),dead,dead,cells false (m'*1) fun (a:Nat)=>fz Fz.auto 1 ((ai (L'.getD a 0)).l.length) fun (i x:Nat)=>af (ai (L'.getD a 0)).l i])) ([cells false 1 fun (x:Nat)=>ow true 5 m 1,cells false 1 fun (x:Nat)=>int i64 (most:Int),cells false 1 fun (x:Nat)=>fz O.2 1 (O.l.length) fun (i x:Nat)=>af O.l i,cells false 1 fun (x:Nat)=>fn 78 0 (nth []) 5 (nth [ref 0 0,ref 1 0,ref 2 0,ref 3 0,ref 4 0]),cells false 2 (nth [int i64 p.atoms,ae p.rules]),cells false (m*1) fun (a:Nat)=>fz Fz.auto 1 ((ai (L.getD a 0)).l.length) fun (i x:Nat)=>af (ai (L.getD a 0)).l i])) (fun _=>by kernel_rfl) ⟨by omega,by omega,fun hcc=>(nomatch (hz.symm.trans hcc)),fun _=>⟨by omega,fun _=>⟨by omega,by omega,⟨rfl,(i1 _ _)⟩,by kernel_rfl,by omega,by omega,by omega,by omega,by omega,(fun _ _=>⟨rfl,(d6 _ _ (by omega) _ _)⟩),⟨rfl,(el (T:=LT) inferInstance [0,1,2,3,4,6] 7 (fun R _ g=>i2 R g) rfl rfl rfl (by exact⟨⟨rfl,Nat.le_refl _,fun j hj=>match j,hj with|0,_=>(AM _) ⟩,⟨rfl,Nat.le_refl _,fun j hj=>match j,hj with|0,_=>(AM _) ⟩,⟨rfl,Nat.le_refl _,fun j hj=>match j,hj with|0,_=>(AM _) ⟩,⟨rfl,Nat.le_refl _,fun j hj=>match j,hj with|0,_=>(Le.fn (fun i hi=>absurd hi (by omega)) (fun i hi=>match i,hi with|0,_=>(AM _)|1,_=>(AM _)|2,_=>(AM _)|3,_=>(AM _)|4,_=>(AM _) )) ⟩,⟨rfl,Nat.le_refl _,fun j hj=>match j,hj with|0,_=>(AM _)|1,_=>(AM _) ⟩,⟨rfl,Nat.le_refl _,fun j hj=>(by first|exact bp (by first|exact trivial|apply fF)|exact AN (gL rfl).symm)⟩,trivial⟩) (by exact⟨by omega,by omega,by omega,by omega,by omega,by omega,trivial⟩) (by exact⟨bp (by exact trivial),bp (by exact trivial),AM _,AM _,AM _,AM _,AM _,trivial⟩) (by exact bO (by exact trivial)) (by exact⟨AO,⟨rfl,Nat.le_refl _,fun j hj=>match j,hj with|0,_=>(AM _) ⟩,⟨rfl,Nat.le_refl _,fun j hj=>match j,hj with|0,_=>(AM _) ⟩,⟨rfl,Nat.le_refl _,fun j hj=>match j,hj with|0,_=>(Le.fn (fun i hi=>absurd hi (by omega)) (fun i hi=>match i,hi with|0,_=>(AM _)|1,_=>(AM _)|2,_=>(AM _)|3,_=>(AM _)|4,_=>(AM _) )) ⟩,⟨rfl,Nat.le_refl _,fun j hj=>match j,hj with|0,_=>(AM _)|1,_=>(AM _) ⟩,trivial,trivial,⟨rfl,Nat.le_refl _,fun j hj=>(by first|exact bO (by first|exact trivial|apply fF)|exact AN (gL rfl))⟩,trivial⟩))⟩,?_⟩,fun hcc=>(nomatch (hb.symm.trans hcc))⟩⟩
    refine l9 (.tup 0 (nth [])) _ rfl trivial ?_
    refine ej [0,1,2,3,4,5,7] 8 ?_ ?_ ?_ ?_ ?_ ?_ ?_
    ·rfl
    ·rfl
    ·rfl
    ·rfl
    ·rfl
    ·exact⟨AM _,trivial⟩
    ·exact⟨⟨rfl,Nat.le_refl _,fun j hj=>AM _⟩,AP _,AP _,⟨rfl,Nat.le_refl _,fun j hj=>mb⟩,⟨rfl,Nat.le_refl _,fun j hj=>match j,hj with|0,_=>AM _|1,_=>bp (by exact trivial)⟩,trivial,⟨rfl,Nat.le_refl _,fun j hj=>AM _⟩,trivial⟩
def d8 (p:Prg):Nat:=aG (am p).2 3 p.atoms.toNat
def gX (p:Prg):Nat:=aG (am p).2 2 p.atoms.toNat
def stP (p:Prg)(most:Nat):List Nat:=stF p most (bo (d8 p)) (gX p) []
theorem oR {p:Prg}{most:Nat}{O:KL Int}(hm:1<=most/\most<=100)(hO:O.l.length<=10)(hOa:∀a,a∈O.l->0<=a/\a<24)(hl:p.rules.l.length<1000000)(hr:∀r,r∈p.rules.l->aE r):∀(j k:Nat),k+j=O.l.length->FromC p most O (O.l.drop k) (k:Int)
 |0,k,h=>by
  have hk:k=O.l.length:=by omega
  subst hk
  rw[List.drop_length]
  exact zy hm hO hl hr
 |j+1,k,h=>by
  rw[eG O.l 0 (show k<O.l.length by omega)]
  exact zz hm hO omg (hOa _ (bx O.l 0 omg)) (oR hm hO hOa hl hr j (k+1) omg)
theorem s0 {s:Nat}:∀a,a∈(ai s).l->0<=a/\a<24:=by
 intro a ha
 obtain⟨b,hb,rfl⟩:=List.mem_map.1 (show a∈(ak s).map (fun (a:Nat)=>(a:Int)) from ha)
 have:=iJ hb
 omega
theorem zA (R:Res)[Tab LT R](p:Prg)(most:Nat)(hb:aD p=true)(hm:1<=most/\most<=100)(hO:(bo (d8 p)).length<=10)(hN:stP p most=[])(g:R.σ):Does Tryd.prog R 27 [aw p,.int .i64 most] [] g (.ret (.tup 2 (nth [.fz .nil 0 0 (fun _ _=>.any),.int .i64 0]))) [] g:=by
 obtain⟨hl,hr,hp,hh,hx⟩:=eK hb
 have hs:em p:=gl hb
 have hp':1<=p.atoms/\p.atoms<=24:=hp
 have hc:(bif ((if aD p then(0:Int) else 2) != 0) then true else !decide (1<=(most:Int)/\(most:Int)<=100))=false:=by
  rw[hb,decide_eq_true (by omega)]
  rfl
 have hD:=fun (R:Res) [Tab LT R] (g:R.σ)=>oz R p hl hr hp hh g
 have hC:=fun (R:Res) [Tab LT R] (s:Nat) (hs:s<2^24) (g:R.σ)=>iO R s hs g
 have hlt:aG (am p).2 3 p.atoms.toNat<2^24:=iK (by omega)
 have hS:=fun (R:Res) (g:R.σ)=>l8 R (am p).2 p.atoms 3 (by omega) g
 have hS2:=fun (R:Res) (g:R.σ)=>l8 R (am p).2 p.atoms 2 (by omega) g
 have hgt:decide ((10:Int)<((ai (aG (am p).2 3 p.atoms.toNat)).l.length:Int))=false:=decide_eq_false (by
  have hO:(ai (aG (am p).2 3 p.atoms.toNat)).l.length<=10:=hO
  omega)
 have hF0:=(oR (p:=p) (most:=most) (O:=ai (d8 p)) hm hO s0 hl hr (ai (d8 p)).l.length 0 (by omega)).nn
 rw[List.drop_zero] at hF0
 have hF:=fun (R:Res) [Tab LT R] (g:R.σ)=>hF0 R (gX p) g (iK (by omega)) hN
 unfold gX d8 at hF
 clear hF0
 refine dN (nt:=45) (rs:=[.tmp 4,.tmp 5]) (k0:=0) (by kernel_rfl) (by kernel_rfl) (by kernel_rfl) rfl ?_
 refine vcQ [[1,0,1,0],[1,1,1,1,0,1,0]] (lkL [(0,[2,3]),(1,[2,3,18]),(3,[2,3,7]),(4,[2,3,7,8]),(5,[2,3,7,8,34]),(7,[2,3,7,8,9]),(8,[2,3,7,8,9,10]),(9,[2,7,9,10]),(10,[9]),(11,[4,5])]) (lkL [(1,[(1,ROrc.pcall (int i64 (if aD p=true then 0 else 2))),(5,ROrc.pcall (AV.bool (decide (1<=(most:Int)/\(most:Int)<=100))))]),(3,[(1,ROrc.call (tup 2 (nth [fz Fz.auto 2 ((bv (am p).fst).l.length) fun (i:Nat)=>eF ((bv (am p).fst).l.getD i default),ref 2 0])) [cells false 2 (nth [int i64 p.atoms,ae p.rules]),cells false 1 fun (a:Nat)=>int i64 (most:Int),cells false 27 (aP (am p).snd)] g)]),(4,[(5,ROrc.lcall (int u64 (↑(aG (am p).snd 3 (p.atoms.toNat)):Int)) [2]),(6,ROrc.callN (fn 105 0 (nth []) 1 (nth [ref (List.length [cells false 2 (nth [int i64 p.atoms,ae p.rules]),cells false 1 fun (a:Nat)=>int i64 (most:Int),cells false 27 (aP (am p).snd)]) 0])) [] [cells false 1 fun (x:Nat)=>int u64 (↑(aG (am p).snd 3 (p.atoms.toNat)):Int)] g),(7,ROrc.callS (fz Fz.auto 1 ((ai (aG (am p).snd 3 (p.atoms.toNat))).l.length) fun (i x:Nat)=>af (ai (aG (am p).snd 3 (p.atoms.toNat))).l i) [(3,cells false 1 fun (j:Nat)=>any)] g),(9,ROrc.val (Orc.obj (nth [fz Fz.auto 1 ((ai (aG (am p).snd 3 (p.atoms.toNat))).l.length) fun (i x:Nat)=>af (ai (aG (am p).snd 3 (p.atoms.toNat))).l i])))]),(9,[(1,ROrc.val (Orc.obj (nth [fn 78 0 (nth []) 5 (nth [ref 5 0,ref 1 0,ref 4 0,ref 6 0,ref 0 0])])))]),(10,[(6,ROrc.lcall (int u64 (↑(aG (am p).snd 2 (p.atoms.toNat)):Int)) [2]),(7,ROrc.kcall (tup 0 (nth [])))])]) (fun Q=>(fun (u1:List AObj)=>(fun (u2:Nat)=>(fun (u3:Int)=>(fun (u4:AObj)=>(fun (u5:AObj)=>(fun (u6:AV)=>(fun (u7:AObj)=>(fun (u8:Bool)=>(fun (u9:Int)=>(fun (u10:List AV)=>(fun (u11:AV)=>(fun (u12:List AObj)=>(fun (u13:Int)=>2<=2/\(∀(hp:List AObj) (g:R.σ),true=true/\Does Tryd.prog R 16 [aw p] hp g (ret (int i64 u13)) hp g)/\((!u13 != 0)=true->1<=1)/\((!u13 != 0)=true->∀(hp:List AObj) (g:R.σ),true=true/\Does Tryd.prog R 58 [int i64 u3,int i64 1,int i64 100] hp g (ret (AV.bool (decide (1<=u3/\u3<=100)))) hp g)/\(u8=true->Wp Tryd.prog R 45 0 Rd.top (az Tryd.prog 27) [1,0,1,0] (aV Tryd.prog R 45 0 Rd.top (az Tryd.prog 27) Q [Kont.seq [1,1]]) (St.mk [(2,ref 0 0),(3,ref 1 0),(18,AV.bool u8)] [u4,u5] g))/\(u8=false->2<=2/\(true=true/\Does Tryd.prog R 60 [aw p] [u4,u5] g (ret (tup 2 (nth [fz Fz.auto 2 ((bv (am p).fst).l.length) fun (i:Nat)=>eF ((bv (am p).fst).l.getD i default),ref 2 0]))) [u4,u5,u7] g)/\Tables.follows Tryd.prog.toTables Departure.mixedOrders=true/\1<=2/\(∀(hp':List AObj) (g':R.σ),SameO [2] [u4,u5,u7] hp'->true=true/\Does Tryd.prog R 76 [ref 2 2,int i64 p.atoms,int i64 3] hp' g' (ret (int u64 (u2:Int))) hp' g')/\(true=true/\Does Tryd.prog R 77 [int u64 (u2:Int)] [u4,u5,u7] g (ret (fn 105 0 (nth []) 1 (nth [ref 3 0]))) u12 g)/\(true=true/\Does Tryd.prog R 75 [fn 105 0 (nth []) 1 (nth [ref 3 0])] u12 g (ret u6) [u4,u5,u7,cells false 1 fun (j:Nat)=>any] g)/\1<=1/\(∀(c:Nat),c<1->nth [u6] c=ao (fun (a:Nat)=>fz Fz.nil 0 0 fun _ _=>any) 0 1 (fun (x:Nat)=>u6) c)/\1<=1/\(decide (u9 > 10)=true->Wp Tryd.prog R 45 0 Rd.top (az Tryd.prog 27) [1,1,1,1,0,1,0] (aV Tryd.prog R 45 0 Rd.top (az Tryd.prog 27) Q [Kont.seq [1,1,1,1,1]]) (St.mk [(2,ref 0 0),(3,ref 1 0),(7,ref 2 0),(8,ref 4 0),(34,AV.bool (decide (u9 > 10)))] [u4,u5,u7,cells false 1 fun (j:Nat)=>any,cells false 1 (nth [u6])] g))/\(decide (u9 > 10)=false->1<=1/\(∀(c:Nat),c<1->nth [fn 78 0 (nth []) 5 (nth u10)] c=ao (fun (a:Nat)=>AV.nilf) 0 1 (fun (x:Nat)=>fn 78 0 (nth []) 5 (nth u10)) c)/\Tables.follows Tryd.prog.toTables Departure.mixedOrders=true/\1<=1/\1<=2/\(∀(hp':List AObj) (g':R.σ),SameO [2] u1 hp'->true=true/\Does Tryd.prog R 76 [ref 2 2,int i64 p.atoms,int i64 2] hp' g' (ret u11) hp' g')/\(true=true/\Does Tryd.prog R 78 (int i64 0::u11::u10) u1 g (ret (tup 0 (nth []))) u1 g)/\1<=1/\Q AEx.ret (St.mk [(4,fz Fz.nil 0 0 fun _ _=>any),(5,int i64 0)] u1 g)))) (if aD p=true then 0 else 2)) ([u4,u5,u7,cells false 1 fun (x:Nat)=>int u64 (u2:Int)])) (int u64 (↑(aG (am p).snd 2 (p.atoms.toNat)):Int))) ([ref 5 0,ref 1 0,ref 4 0,ref 6 0,ref 0 0])) ((↑((ai u2).l.length):Int))) (bif (if aD p=true then 0 else 2) != 0 then true else !decide (1<=u3/\u3<=100))) (cells false 27 (aP (am p).snd))) (fz Fz.auto 1 ((ai u2).l.length) fun (i x:Nat)=>af (ai u2).l i)) (cells false 1 fun (a:Nat)=>int i64 u3)) (cells false 2 (nth [int i64 p.atoms,ae p.rules]))) ((most:Int))) (aG (am p).snd 3 (p.atoms.toNat))) ([cells false 2 (nth [int i64 p.atoms,ae p.rules]),cells false 1 fun (a:Nat)=>int i64 (most:Int),cells false 27 (aP (am p).snd),cells false 1 fun (j:Nat)=>any,cells false 1 (nth [fz Fz.auto 1 ((ai (aG (am p).snd 3 (p.atoms.toNat))).l.length) fun (i x:Nat)=>af (ai (aG (am p).snd 3 (p.atoms.toNat))).l i]),cells false 1 fun (a:Nat)=>fz Fz.nil 0 0 fun _ _=>any,cells false 1 (nth [fn 78 0 (nth []) 5 (nth [ref 5 0,ref 1 0,ref 4 0,ref 6 0,ref 0 0])])])) (fun _=>by kernel_rfl) ⟨by omega,(fun _ _=>⟨rfl,(ga _ _ _ _ (by omega))⟩),by omega,(fun hgd=>(fun _ _=>⟨rfl,(dv _ _ _ _ _ _)⟩)),fun hcc=>(nomatch (hc.symm.trans hcc)),fun _=>⟨by omega,⟨rfl,(el (T:=LT) inferInstance [] 2 (fun R _ g=>hD R g) rfl rfl rfl (by exact trivial) (by exact trivial) (by exact⟨bp (by exact⟨⟨trivial,trivial⟩,trivial⟩),trivial⟩) (by exact(AR (fun i hi=>match i,hi with|0,_=>(AM _)|1,_=>(AM _) ))) (by exact⟨AO,AO,⟨rfl,Nat.le_refl _,fun j hj=>(by first|exact bO (by first|exact trivial|apply ls)|exact AN (dt rfl))⟩,trivial⟩))⟩,by kernel_rfl,by omega,?_,⟨rfl,(cQ _ _ _ _)⟩,⟨rfl,(el (T:=LT) inferInstance [3] 4 (fun R _ g=>hC R (aG (am p).snd 3 (p.atoms.toNat)) (by omega) g) rfl rfl rfl (by exact⟨⟨rfl,Nat.le_refl _,fun j hj=>match j,hj with|0,_=>(AM _) ⟩,trivial⟩) (by exact⟨by omega,trivial⟩) (by exact⟨(Le.fn (fun i hi=>absurd hi (by omega)) (fun i hi=>match i,hi with|0,_=>(AM _) )),trivial⟩) (by exact bO (by exact trivial)) (by exact⟨AO,AO,AO,AO,trivial⟩))⟩,by omega,(fun c hc=>match c,hc with|0,_=>(by kernel_rfl) ),by omega,fun hcc=>(nomatch (hgt.symm.trans hcc)),fun _=>⟨by omega,(fun c hc=>match c,hc with|0,_=>(by kernel_rfl) ),by kernel_rfl,by omega,by omega,?_,⟨rfl,(el (T:=LT) inferInstance [5,1,4,6,0] 7 (fun R _ g=>hF R g) rfl rfl rfl (by exact⟨⟨rfl,Nat.le_refl _,fun j hj=>match j,hj with|0,_=>(AM _) ⟩,⟨rfl,Nat.le_refl _,fun j hj=>match j,hj with|0,_=>(AM _) ⟩,⟨rfl,Nat.le_refl _,fun j hj=>match j,hj with|0,_=>(AM _) ⟩,⟨rfl,Nat.le_refl _,fun j hj=>match j,hj with|0,_=>(Le.fn (fun i hi=>absurd hi (by omega)) (fun i hi=>match i,hi with|0,_=>(AM _)|1,_=>(AM _)|2,_=>(AM _)|3,_=>(AM _)|4,_=>(AM _) )) ⟩,⟨rfl,Nat.le_refl _,fun j hj=>match j,hj with|0,_=>(AM _)|1,_=>(AM _) ⟩,trivial⟩) (by exact⟨by omega,by omega,by omega,by omega,by omega,trivial⟩) (by exact⟨bp (by exact trivial),bp (by exact trivial),AM _,AM _,AM _,AM _,AM _,trivial⟩) (by exact bO (by exact trivial)) (by exact⟨⟨rfl,Nat.le_refl _,fun j hj=>match j,hj with|0,_=>(AM _)|1,_=>(AM _) ⟩,⟨rfl,Nat.le_refl _,fun j hj=>match j,hj with|0,_=>(AM _) ⟩,AO,AO,⟨rfl,Nat.le_refl _,fun j hj=>match j,hj with|0,_=>(AM _) ⟩,⟨rfl,Nat.le_refl _,fun j hj=>match j,hj with|0,_=>(AM _) ⟩,⟨rfl,Nat.le_refl _,fun j hj=>match j,hj with|0,_=>(Le.fn (fun i hi=>absurd hi (by omega)) (fun i hi=>match i,hi with|0,_=>(AM _)|1,_=>(AM _)|2,_=>(AM _)|3,_=>(AM _)|4,_=>(AM _) )) ⟩,trivial⟩))⟩,by omega,?_⟩⟩⟩
 ·intro hp' g' hs'
  exact⟨rfl,jO [2] (fun R g=>hS R g) (by exact⟨rfl,trivial⟩) rfl (by exact fun n=>⟨AY (fun j hj=>(dt trivial).symm),trivial⟩) ⟨by omega,trivial⟩ (by exact fun n=>⟨AM _,AM _,AM _,trivial⟩) rfl (by exact fun n=>AM _) (by exact fun n=>⟨AY (fun j hj=>dt trivial),trivial⟩) hp' g' hs'⟩
 ·intro hp' g' hs'
  exact⟨rfl,jO [2] (fun R g=>hS2 R g) (by exact⟨rfl,trivial⟩) rfl (by exact fun n=>⟨AY (fun j hj=>(dt trivial).symm),trivial⟩) ⟨by omega,trivial⟩ (by exact fun n=>⟨AM _,AM _,AM _,trivial⟩) rfl (by exact fun n=>AM _) (by exact fun n=>⟨AY (fun j hj=>dt trivial),trivial⟩) hp' g' hs'⟩
 ·refine(av (bE _ _ rfl trivial ⟨⟨trivial,trivial⟩,trivial⟩ rfl) (AM _))
theorem zB (R:Res)[Tab LT R](p:Prg)(most:Nat)(hb:aD p=true)(hm:1<=most/\most<=100)(hO:(bo (d8 p)).length<=10)(hN:stP p most≠[])(g:R.σ):Does Tryd.prog R 27 [aw p,.int .i64 most] [] g (.ret (.tup 2 (nth [du (stP p most).length (fun i=>ai ((stP p most).getD i 0)),.int .i64 0]))) [] g:=by
 obtain⟨hl,hr,hp,hh,hx⟩:=eK hb
 have hs:em p:=gl hb
 have hp':1<=p.atoms/\p.atoms<=24:=hp
 have hc:(bif ((if aD p then(0:Int) else 2) != 0) then true else !decide (1<=(most:Int)/\(most:Int)<=100))=false:=by
  rw[hb,decide_eq_true (by omega)]
  rfl
 have hD:=fun (R:Res) [Tab LT R] (g:R.σ)=>oz R p hl hr hp hh g
 have hC:=fun (R:Res) [Tab LT R] (s:Nat) (hs:s<2^24) (g:R.σ)=>iO R s hs g
 have hlt:aG (am p).2 3 p.atoms.toNat<2^24:=iK (by omega)
 have hS:=fun (R:Res) (g:R.σ)=>l8 R (am p).2 p.atoms 3 (by omega) g
 have hS2:=fun (R:Res) (g:R.σ)=>l8 R (am p).2 p.atoms 2 (by omega) g
 have hgt:decide ((10:Int)<((ai (aG (am p).2 3 p.atoms.toNat)).l.length:Int))=false:=decide_eq_false (by
  have hO:(ai (aG (am p).2 3 p.atoms.toNat)).l.length<=10:=hO
  omega)
 obtain⟨L,hL⟩:∃L,stP p most=L:=⟨_,rfl⟩
 rw[hL] at hN ⊢
 obtain⟨m,hm0⟩:∃m,m=L.length:=⟨_,rfl⟩
 have hmm:m<=100:=by
  have:=(eM (p:=p) (most:=most) (r:=bo (d8 p)) (s:=gX p) (out:=[]) (Nat.zero_le _)).2.1
  have hL':stF p most (bo (d8 p)) (gX p) []=L:=hL
  rw[hL'] at this
  omega
 have hF0:=(oR (p:=p) (most:=most) (O:=ai (d8 p)) hm hO s0 hl hr (ai (d8 p)).l.length 0 (by omega)).nw
 rw[List.drop_zero] at hF0
 have hF:=fun (R:Res) [Tab LT R] (g:R.σ)=>hF0 R (gX p) m L g (iK (by omega)) hL hN hm0
 unfold gX d8 at hF
 clear hF0
 refine dN (nt:=45) (rs:=[.tmp 4,.tmp 5]) (k0:=0) (by kernel_rfl) (by kernel_rfl) (by kernel_rfl) rfl ?_
 refine vcQ [[1,0,1,0],[1,1,1,1,0,1,0]] (lkL [(0,[2,3]),(1,[2,3,18]),(3,[2,3,7]),(4,[2,3,7,8]),(5,[2,3,7,8,34]),(7,[2,3,7,8,9]),(8,[2,3,7,8,9,10]),(9,[2,7,9,10]),(10,[9]),(11,[4,5])]) (lkL [(1,[(1,ROrc.pcall (int i64 (if aD p=true then 0 else 2))),(5,ROrc.pcall (AV.bool (decide (1<=(most:Int)/\(most:Int)<=100))))]),(3,[(1,ROrc.call (tup 2 (nth [fz Fz.auto 2 ((bv (am p).fst).l.length) fun (i:Nat)=>eF ((bv (am p).fst).l.getD i default),ref 2 0])) [cells false 2 (nth [int i64 p.atoms,ae p.rules]),cells false 1 fun (a:Nat)=>int i64 (most:Int),cells false 27 (aP (am p).snd)] g)]),(4,[(5,ROrc.lcall (int u64 (↑(aG (am p).snd 3 (p.atoms.toNat)):Int)) [2]),(6,ROrc.callN (fn 105 0 (nth []) 1 (nth [ref (List.length [cells false 2 (nth [int i64 p.atoms,ae p.rules]),cells false 1 fun (a:Nat)=>int i64 (most:Int),cells false 27 (aP (am p).snd)]) 0])) [] [cells false 1 fun (x:Nat)=>int u64 (↑(aG (am p).snd 3 (p.atoms.toNat)):Int)] g),(7,ROrc.callS (fz Fz.auto 1 ((ai (aG (am p).snd 3 (p.atoms.toNat))).l.length) fun (i x:Nat)=>af (ai (aG (am p).snd 3 (p.atoms.toNat))).l i) [(3,cells false 1 fun (j:Nat)=>any)] g),(9,ROrc.val (Orc.obj (nth [fz Fz.auto 1 ((ai (aG (am p).snd 3 (p.atoms.toNat))).l.length) fun (i x:Nat)=>af (ai (aG (am p).snd 3 (p.atoms.toNat))).l i])))]),(9,[(1,ROrc.val (Orc.obj (nth [fn 78 0 (nth []) 5 (nth [ref 5 0,ref 1 0,ref 4 0,ref 6 0,ref 0 0])])))]),(10,[(6,ROrc.lcall (int u64 (↑(aG (am p).snd 2 (p.atoms.toNat)):Int)) [2]),(7,ROrc.callN (tup 0 (nth [])) [(5,cells false 1 fun (j:Nat)=>ow true 7 m 1)] [cells false (m*1) (aM L)] g)])]) (fun Q=>(fun (u1:AV)=>(fun (u2:AObj)=>(fun (u3:AObj)=>(fun (u4:List AObj)=>(fun (u5:Int)=>(fun (u6:Int)=>(fun (u7:List AObj)=>(fun (u8:AObj)=>(fun (u9:Bool)=>(fun (u10:AV)=>(fun (u11:List AV)=>(fun (u12:AV)=>(fun (u13:Int)=>2<=2/\(∀(hp:List AObj) (g:R.σ),true=true/\Does Tryd.prog R 16 [aw p] hp g (ret (int i64 u13)) hp g)/\((!u13 != 0)=true->1<=1)/\((!u13 != 0)=true->∀(hp:List AObj) (g:R.σ),true=true/\Does Tryd.prog R 58 [int i64 u6,int i64 1,int i64 100] hp g (ret (AV.bool (decide (1<=u6/\u6<=100)))) hp g)/\(u9=true->Wp Tryd.prog R 45 0 Rd.top (az Tryd.prog 27) [1,0,1,0] (aV Tryd.prog R 45 0 Rd.top (az Tryd.prog 27) Q [Kont.seq [1,1]]) (St.mk [(2,ref 0 0),(3,ref 1 0),(18,AV.bool u9)] [u2,u3] g))/\(u9=false->2<=2/\(true=true/\Does Tryd.prog R 60 [aw p] [u2,u3] g (ret (tup 2 (nth [fz Fz.auto 2 ((bv (am p).fst).l.length) fun (i:Nat)=>eF ((bv (am p).fst).l.getD i default),ref 2 0]))) [u2,u3,u8] g)/\Tables.follows Tryd.prog.toTables Departure.mixedOrders=true/\1<=2/\(∀(hp':List AObj) (g':R.σ),SameO [2] [u2,u3,u8] hp'->true=true/\Does Tryd.prog R 76 [ref 2 2,int i64 p.atoms,int i64 3] hp' g' (ret u10) hp' g')/\(true=true/\Does Tryd.prog R 77 [u10] [u2,u3,u8] g (ret (fn 105 0 (nth []) 1 (nth [ref 3 0]))) [u2,u3,u8,cells false 1 fun (x:Nat)=>u10] g)/\(true=true/\Does Tryd.prog R 75 [fn 105 0 (nth []) 1 (nth [ref 3 0])] [u2,u3,u8,cells false 1 fun (x:Nat)=>u10] g (ret u1) [u2,u3,u8,cells false 1 fun (j:Nat)=>any] g)/\1<=1/\(∀(c:Nat),c<1->nth [u1] c=ao (fun (a:Nat)=>fz Fz.nil 0 0 fun _ _=>any) 0 1 (fun (x:Nat)=>u1) c)/\1<=1/\(decide (u5 > 10)=true->Wp Tryd.prog R 45 0 Rd.top (az Tryd.prog 27) [1,1,1,1,0,1,0] (aV Tryd.prog R 45 0 Rd.top (az Tryd.prog 27) Q [Kont.seq [1,1,1,1,1]]) (St.mk [(2,ref 0 0),(3,ref 1 0),(7,ref 2 0),(8,ref 4 0),(34,AV.bool (decide (u5 > 10)))] [u2,u3,u8,cells false 1 fun (j:Nat)=>any,cells false 1 (nth [u1])] g))/\(decide (u5 > 10)=false->1<=1/\(∀(c:Nat),c<1->nth [fn 78 0 (nth []) 5 (nth u11)] c=ao (fun (a:Nat)=>AV.nilf) 0 1 (fun (x:Nat)=>fn 78 0 (nth []) 5 (nth u11)) c)/\Tables.follows Tryd.prog.toTables Departure.mixedOrders=true/\1<=1/\1<=2/\(∀(hp':List AObj) (g':R.σ),SameO [2] u7 hp'->true=true/\Does Tryd.prog R 76 [ref 2 2,int i64 p.atoms,int i64 2] hp' g' (ret u12) hp' g')/\(true=true/\Does Tryd.prog R 78 (int i64 0::u12::u11) u7 g (ret (tup 0 (nth []))) u4 g)/\1<=1/\Q AEx.ret (St.mk [(4,ow true 7 m 1),(5,int i64 0)] u4 g)))) (if aD p=true then 0 else 2)) (int u64 (↑(aG (am p).snd 2 (p.atoms.toNat)):Int))) ([ref 5 0,ref 1 0,ref 4 0,ref 6 0,ref 0 0])) (int u64 (↑(aG (am p).snd 3 (p.atoms.toNat)):Int))) (bif (if aD p=true then 0 else 2) != 0 then true else !decide (1<=u6/\u6<=100))) (cells false 27 (aP (am p).snd))) ([u2,u3,cells false 27 (aP (am p).snd),cells false 1 fun (j:Nat)=>any,cells false 1 (nth [u1]),cells false 1 fun (a:Nat)=>fz Fz.nil 0 0 fun _ _=>any,cells false 1 (nth [fn 78 0 (nth []) 5 (nth [ref 5 0,ref 1 0,ref 4 0,ref 6 0,ref 0 0])])])) ((most:Int))) ((↑((ai (aG (am p).snd 3 (p.atoms.toNat))).l.length):Int))) ([u2,u3,cells false 27 (aP (am p).snd),cells false 1 fun (j:Nat)=>any,cells false 1 (nth [u1]),cells false 1 fun (j:Nat)=>ow true 7 m 1,cells false 1 (nth [fn 78 0 (nth []) 5 (nth [ref 5 0,ref 1 0,ref 4 0,ref 6 0,ref 0 0])]),cells false (m*1) fun (a:Nat)=>fz Fz.auto 1 ((ai (L.getD a 0)).l.length) fun (i x:Nat)=>af (ai (L.getD a 0)).l i])) (cells false 1 fun (a:Nat)=>int i64 (most:Int))) (cells false 2 (nth [int i64 p.atoms,ae p.rules]))) (fz Fz.auto 1 ((ai (aG (am p).snd 3 (p.atoms.toNat))).l.length) fun (i x:Nat)=>af (ai (aG (am p).snd 3 (p.atoms.toNat))).l i)) (fun _=>by kernel_rfl) ⟨by omega,(fun _ _=>⟨rfl,(ga _ _ _ _ (by omega))⟩),by omega,(fun hgd=>(fun _ _=>⟨rfl,(dv _ _ _ _ _ _)⟩)),fun hcc=>(nomatch (hc.symm.trans hcc)),fun _=>⟨by omega,⟨rfl,(el (T:=LT) inferInstance [] 2 (fun R _ g=>hD R g) rfl rfl rfl (by exact trivial) (by exact trivial) (by exact⟨bp (by exact⟨⟨trivial,trivial⟩,trivial⟩),trivial⟩) (by exact(AR (fun i hi=>match i,hi with|0,_=>(AM _)|1,_=>(AM _) ))) (by exact⟨AO,AO,⟨rfl,Nat.le_refl _,fun j hj=>(by first|exact bO (by first|exact trivial|apply ls)|exact AN (dt rfl))⟩,trivial⟩))⟩,by kernel_rfl,by omega,?_,⟨rfl,(cQ _ _ _ _)⟩,⟨rfl,(el (T:=LT) inferInstance [3] 4 (fun R _ g=>hC R (aG (am p).snd 3 (p.atoms.toNat)) (by omega) g) rfl rfl rfl (by exact⟨⟨rfl,Nat.le_refl _,fun j hj=>match j,hj with|0,_=>(AM _) ⟩,trivial⟩) (by exact⟨by omega,trivial⟩) (by exact⟨(Le.fn (fun i hi=>absurd hi (by omega)) (fun i hi=>match i,hi with|0,_=>(AM _) )),trivial⟩) (by exact bO (by exact trivial)) (by exact⟨AO,AO,AO,AO,trivial⟩))⟩,by omega,(fun c hc=>match c,hc with|0,_=>(by kernel_rfl) ),by omega,fun hcc=>(nomatch (hgt.symm.trans hcc)),fun _=>⟨by omega,(fun c hc=>match c,hc with|0,_=>(by kernel_rfl) ),by kernel_rfl,by omega,by omega,?_,⟨rfl,(el (T:=LT) inferInstance [5,1,4,6,0] 7 (fun R _ g=>hF R g) rfl rfl rfl (by exact⟨⟨rfl,Nat.le_refl _,fun j hj=>match j,hj with|0,_=>(AM _) ⟩,⟨rfl,Nat.le_refl _,fun j hj=>match j,hj with|0,_=>(AM _) ⟩,⟨rfl,Nat.le_refl _,fun j hj=>match j,hj with|0,_=>(AM _) ⟩,⟨rfl,Nat.le_refl _,fun j hj=>match j,hj with|0,_=>(Le.fn (fun i hi=>absurd hi (by omega)) (fun i hi=>match i,hi with|0,_=>(AM _)|1,_=>(AM _)|2,_=>(AM _)|3,_=>(AM _)|4,_=>(AM _) )) ⟩,⟨rfl,Nat.le_refl _,fun j hj=>match j,hj with|0,_=>(AM _)|1,_=>(AM _) ⟩,trivial⟩) (by exact⟨by omega,by omega,by omega,by omega,by omega,trivial⟩) (by exact⟨bp (by exact trivial),bp (by exact trivial),AM _,AM _,AM _,AM _,AM _,trivial⟩) (by exact bO (by exact trivial)) (by exact⟨⟨rfl,Nat.le_refl _,fun j hj=>match j,hj with|0,_=>(AM _)|1,_=>(AM _) ⟩,⟨rfl,Nat.le_refl _,fun j hj=>match j,hj with|0,_=>(AM _) ⟩,AO,AO,⟨rfl,Nat.le_refl _,fun j hj=>match j,hj with|0,_=>(AM _) ⟩,AO,⟨rfl,Nat.le_refl _,fun j hj=>match j,hj with|0,_=>(Le.fn (fun i hi=>absurd hi (by omega)) (fun i hi=>match i,hi with|0,_=>(AM _)|1,_=>(AM _)|2,_=>(AM _)|3,_=>(AM _)|4,_=>(AM _) )) ⟩,⟨rfl,Nat.le_refl _,fun j hj=>(by first|exact bO (by first|exact trivial|apply fF)|exact AN (gL rfl))⟩,trivial⟩))⟩,by omega,?_⟩⟩⟩
 ·intro hp' g' hs'
  exact⟨rfl,jO [2] (fun R g=>hS R g) (by exact⟨rfl,trivial⟩) rfl (by exact fun n=>⟨AY (fun j hj=>(dt trivial).symm),trivial⟩) ⟨by omega,trivial⟩ (by exact fun n=>⟨AM _,AM _,AM _,trivial⟩) rfl (by exact fun n=>AM _) (by exact fun n=>⟨AY (fun j hj=>dt trivial),trivial⟩) hp' g' hs'⟩
 ·intro hp' g' hs'
  exact⟨rfl,jO [2] (fun R g=>hS2 R g) (by exact⟨rfl,trivial⟩) rfl (by exact fun n=>⟨AY (fun j hj=>(dt trivial).symm),trivial⟩) ⟨by omega,trivial⟩ (by exact fun n=>⟨AM _,AM _,AM _,trivial⟩) rfl (by exact fun n=>AM _) (by exact fun n=>⟨AY (fun j hj=>dt trivial),trivial⟩) hp' g' hs'⟩
 ·subst hm0
  show bK Tryd.prog R 0 _ _ _ _ .ret _
  refine fA (.tup 2 (nth [.ow true 7 L.length 1,.int .i64 0])) _ rfl trivial (jP 0 [(0,.tup 2 (nth [du L.length (fun i=>ai (L.getD i 0)),.int .i64 0]))] (Nat.le_refl _) (Nat.zero_le _) (fun i hi=>absurd hi (Nat.not_lt_zero i)) ⟨aB.tup (fun j hj=>?_),trivial⟩)
  match j,hj with
  |0,_=>exact aB.le (aB.ow (o:=7) (N:=L.length*1) (c:=aM L) (get:=aM L) (fr:=false) rfl (Nat.zero_le _) (Nat.le_refl _) (by decide) (fun j _=>AU (fF _ _))) (AT rfl (fun i j hi hj=>by
    show aM L (i*1+j)=_
    rw[show i*1+j=i by omega]
    rfl))
  |1,_=>exact AU trivial
theorem zC (R:Res)[Tab LT R](p:Prg)(most:Nat)(hb:aD p=true)(hm:1<=most/\most<=100)(hO:(bo (d8 p)).length<=10)(g:R.σ):Does Tryd.prog R 27 [aw p,.int .i64 most] [] g (.ret (.tup 2 (nth [du (stP p most).length (fun i=>ai ((stP p most).getD i 0)),.int .i64 0]))) [] g:=by
 by_cases hN:stP p most=[]
 ·rw[hN]
  exact iy (zA R p most hb hm hO hN g) (jt ⟨AR (fun j hj=>match j,hj with|0,_=>Le.nil_auto|1,_=>AM _),trivial⟩ trivial rfl)
 ·exact zB R p most hb hm hO hN g
structure LstOk (p:Prg)(n:Nat)(s:List Bool)(left:Nat):Prop where
 len:s.length=n
 bit:∀j,j<n->s.getD j false = !left.testBit j
 lt:left<2^24
 inn:∀j,left.testBit j=true->j<n
 cls:∀x y,x<n->left.testBit x=false->Reach p x y->left.testBit y=false
section
variable {p:Prg}{n:Nat}{s:List Bool}{left:Nat}
end
end Go.Avm.Pack
namespace Go.Avm.Pack
open Go Go.Avm Go.Proofs
open Go.IntKind (i64 u64)
open Go.Avm.AV (int bool any fz fp sl ow ref fn ifc val agg tup)
open Go.Avm.AObj (cells dead)
open Go.Avm.Oc (ret)
set_option maxRecDepth 4000
theorem ki (R:Res)(a:Int)(hp:List AObj)(g:R.σ):Does Tryd.prog R 91 [.int .i64 a] hp g (.ret (ca ⟨a,false⟩)) hp g:=by
 refine bN (fun R g=>?_) (by exact⟨trivial,trivial⟩) R hp g
 refine spW (nt:=5) (rs:=[.cell 2 77]) (k0:=0) ?_
 refine vcR [] (lkL [(0,[0,2]),(1,[2])]) (lkL [(1,[(2,ROrc.val (Orc.obj (nth [i6 a,AV.bool false])))])]) (fun Q=>2<=2/\(∀(c:Nat),c<2->nth [i6 a,AV.bool false] c=ao (nth [i6 0,AV.bool false]) 0 2 (List.brecOn (motive:=fun (x:List AV)=>Nat->AV) [i6 a,AV.bool false] nth._f) c)/\Q AEx.ret (St.mk [(2,ref 0 0)] [cO 2 (nth [i6 a,AV.bool false])] g)) ⟨omg,(fun c hc=>match c,hc with|0,_=>krf|1,_=>krf ),?_⟩
 refine(av (bE (agg 2 (nth [i6 a,AV.bool false])) ([0+(TyI.mk ((fun (x:TypeInfo)=>x.desc) Tryd.prog.types[76]) Tryd.prog.types[77].size Tryd.prog.types[77].bytes (cd (dk (Value.agg #[Value.int i64 0,Value.bool false]))) (cL ((fun (x:TypeInfo)=>x.desc) Tryd.prog.types[76])) (dI Tryd.prog 77)).size<=2]) krf (by exact⟨dcd,trivial⟩) ⟨⟨trivial,trivial⟩,trivial⟩ rfl) (AN krf))
theorem kj (R:Res)(a:Int)(hp:List AObj)(g:R.σ):Does Tryd.prog R 92 [.int .i64 a] hp g (.ret (ca ⟨a,true⟩)) hp g:=by
 refine bN (fun R g=>?_) (by exact⟨trivial,trivial⟩) R hp g
 refine spW (nt:=5) (rs:=[.cell 2 77]) (k0:=0) ?_
 refine vcR [] (lkL [(0,[0,2]),(1,[2])]) (lkL [(1,[(2,ROrc.val (Orc.obj (nth [i6 a,AV.bool true])))])]) (fun Q=>2<=2/\(∀(c:Nat),c<2->nth [i6 a,AV.bool true] c=ao (nth [i6 0,AV.bool false]) 0 2 (List.brecOn (motive:=fun (x:List AV)=>Nat->AV) [i6 a,AV.bool true] nth._f) c)/\Q AEx.ret (St.mk [(2,ref 0 0)] [cO 2 (nth [i6 a,AV.bool true])] g)) ⟨omg,(fun c hc=>match c,hc with|0,_=>krf|1,_=>krf ),?_⟩
 refine(av (bE (agg 2 (nth [i6 a,AV.bool true])) ([0+(TyI.mk ((fun (x:TypeInfo)=>x.desc) Tryd.prog.types[76]) Tryd.prog.types[77].size Tryd.prog.types[77].bytes (cd (dk (Value.agg #[Value.int i64 0,Value.bool false]))) (cL ((fun (x:TypeInfo)=>x.desc) Tryd.prog.types[76])) (dI Tryd.prog 77)).size<=2]) krf (by exact⟨dcd,trivial⟩) ⟨⟨trivial,trivial⟩,trivial⟩ rfl) (AN krf))
theorem fc (R:Res)(a:Int)(b:KL Lit)(hp:List AObj)(g:R.σ):Does Tryd.prog R 90 [.int .i64 a,ap b] hp g (.ret (bU ⟨a,b⟩)) hp g:=by
 refine bN (fun R g=>?_) (by exact⟨trivial,trivial,trivial⟩) R hp g
 refine spW (nt:=8) (rs:=[.cell 4 75]) (k0:=0) ?_
 refine vcR [] (lkL [(0,[0,1,4]),(1,[4])]) (lkL [(1,[(3,ROrc.val (Orc.obj (nth [i6 a,ap b])))])]) (fun Q=>2<=2/\(∀(c:Nat),c<2->nth [i6 a,ap b] c=ao (nth [i6 0,fz Fz.nil 0 0 fun x x_1=>any]) 0 2 (List.brecOn (motive:=fun (x:List AV)=>Nat->AV) [i6 a,ap b] nth._f) c)/\Q AEx.ret (St.mk [(4,ref 0 0)] [cO 2 (nth [i6 a,ap b])] g)) ⟨omg,(fun c hc=>match c,hc with|0,_=>krf|1,_=>krf ),?_⟩
 refine(av (bE (agg 2 (nth [i6 a,fz b.2 2 (b.l.length) fun (i:Nat)=>iE (b.l.getD i default)])) ([0+(TyI.mk ((fun (x:TypeInfo)=>x.desc) Tryd.prog.types[74]) Tryd.prog.types[75].size Tryd.prog.types[75].bytes (cd (dk (Value.agg #[Value.int i64 0,Value.slice none 0 0]))) (cL ((fun (x:TypeInfo)=>x.desc) Tryd.prog.types[74])) (dI Tryd.prog 75)).size<=2]) krf (by exact⟨dcd,trivial⟩) ⟨⟨trivial,trivial⟩,trivial⟩ rfl) (AN krf))
def tN:KL Lit:=⟨[],.nil⟩
def tA1:KL Lit:=⟨[⟨0,false⟩,⟨2,true⟩],.exa⟩
def tA2:KL Lit:=⟨[⟨3,false⟩],.exa⟩
def tA3:KL Lit:=⟨[⟨2,false⟩],.exa⟩
def tA4:KL Lit:=⟨[⟨5,true⟩],.exa⟩
def tA5:KL Lit:=⟨[⟨4,true⟩],.exa⟩
def tAR:KL Rule:=⟨[⟨0,tN⟩,⟨1,tA1⟩,⟨2,tA2⟩,⟨3,tA3⟩,⟨4,tA4⟩,⟨5,tA5⟩],.exa⟩
def tA:Prg:=⟨6,tAR⟩
def tB1:KL Lit:=⟨[⟨1,true⟩],.exa⟩
def tB2:KL Lit:=⟨[⟨0,true⟩],.exa⟩
def tB3:KL Lit:=⟨[⟨0,false⟩],.exa⟩
def tB4:KL Lit:=⟨[⟨1,false⟩],.exa⟩
def tBR:KL Rule:=⟨[⟨0,tB1⟩,⟨1,tB2⟩,⟨2,tB3⟩,⟨2,tB4⟩],.exa⟩
def tB:Prg:=⟨3,tBR⟩
def tS1:KL Int:=⟨[0],.exa⟩
def tS2:KL Int:=⟨[2,3],.exa⟩
def tS3:KL Int:=⟨[1],.exa⟩
def tS:KL Step:=⟨[⟨0,tS1⟩,⟨-1,tS2⟩,⟨1,tS3⟩],.exa⟩
theorem c_A (R:Res)(hp:List AObj)(g:R.σ):Does Tryd.prog R 44 [] hp g (.ret (aw tA)) hp g:=by
 refine bN (fun R g=>?_) (by exact trivial) R hp g
 obtain⟨v0,e0⟩:∃v,v=tN:=⟨_,rfl⟩
 obtain⟨v1,e1⟩:∃v,v=tA1:=⟨_,rfl⟩
 obtain⟨v2,e2⟩:∃v,v=tA2:=⟨_,rfl⟩
 obtain⟨v3,e3⟩:∃v,v=tA3:=⟨_,rfl⟩
 obtain⟨v4,e4⟩:∃v,v=tA4:=⟨_,rfl⟩
 obtain⟨v5,e5⟩:∃v,v=tA5:=⟨_,rfl⟩
 obtain⟨w,f⟩:∃v,v=tAR:=⟨_,rfl⟩
 show Does _ _ _ _ _ _ (.ret (aw ⟨6,tAR⟩)) _ _
 rw[<-f]
 refine spW (nt:=20) (rs:=[.cell 0 24]) (k0:=0) ?_
 refine vcR [] (lkL [(0,[0]),(1,[0])]) (lkL [(1,[(0,ROrc.pcall (bU (Rule.mk 0 (KL.mk [] Fz.nil)))),(1,ROrc.pcall (ca (Lit.mk 0 false))),(2,ROrc.pcall (ca (Lit.mk 2 true))),(3,ROrc.kop (ap v1)),(4,ROrc.pcall (bU (Rule.mk 1 v1))),(5,ROrc.pcall (ca (Lit.mk 3 false))),(6,ROrc.kop (ap v2)),(7,ROrc.pcall (bU (Rule.mk 2 v2))),(8,ROrc.pcall (ca (Lit.mk 2 false))),(9,ROrc.kop (ap v3)),(10,ROrc.pcall (bU (Rule.mk 3 v3))),(11,ROrc.pcall (ca (Lit.mk 5 true))),(12,ROrc.kop (ap v4)),(13,ROrc.pcall (bU (Rule.mk 4 v4))),(14,ROrc.pcall (ca (Lit.mk 4 true))),(15,ROrc.kop (ap v5)),(16,ROrc.pcall (bU (Rule.mk 5 v5))),(17,ROrc.kop (ae w)),(19,ROrc.val (Orc.obj (nth [i6 6,ae w])))])]) (fun Q=>(fun (u1:List Row)=>(fun (u2:List AObj)=>(fun (u3:List Row)=>(fun (u4:List Row)=>(fun (u5:List Row)=>(fun (u6:List (Nat × AV))=>(∀(hp:List AObj) (g:R.σ),true=true/\Does Tryd.prog R 90 [i6 0,fz Fz.nil 0 0 fun x x_1=>any] hp g (ret (agg 2 (nth [i6 0,fz Fz.nil 2 0 fun i=>iE ((KL.mk [] Fz.nil).l.getD i default)]))) hp g)/\(∀(hp:List AObj) (g:R.σ),true=true/\Does Tryd.prog R 91 [i6 0] hp g (ret (agg 2 (nth [i6 0,AV.bool false]))) hp g)/\(∀(hp:List AObj) (g:R.σ),true=true/\Does Tryd.prog R 92 [i6 2] hp g (ret (agg 2 (nth [i6 2,AV.bool true]))) hp g)/\OpOk Tryd.prog R (Oper.mk (some 4) (Op.buildSlice 73 2 #[(0,Operand.tmp 2),(1,Operand.tmp 3)]) 73 "law.go:21" #[Edge.mk 1 Ground.data,Edge.mk 2 Ground.data] none) (evO u4 u6 []) u2 g (ap v1) u2 g/\(∀(hp:List AObj) (g:R.σ),true=true/\Does Tryd.prog R 90 [i6 1,ap v1] hp g (ret (agg 2 (nth [i6 1,ap v1]))) hp g)/\(∀(hp:List AObj) (g:R.σ),true=true/\Does Tryd.prog R 91 [i6 3] hp g (ret (agg 2 (nth [i6 3,AV.bool false]))) hp g)/\OpOk Tryd.prog R (Oper.mk (some 7) (Op.buildSlice 73 1 #[(0,Operand.tmp 6)]) 73 "law.go:21" #[Edge.mk 5 Ground.data] none) (evO (Row.mk (some 6) none (agg 2 (nth [i6 3,AV.bool false])) false (some []) []::Row.mk (some 5) none (agg 2 (nth [i6 1,ap v1])) false (some []) []::Row.mk (some 4) none (ap v1) true (some []) []::u4) u6 []) u2 g (ap v2) u2 g/\(∀(hp:List AObj) (g:R.σ),true=true/\Does Tryd.prog R 90 [i6 2,ap v2] hp g (ret (agg 2 (nth [i6 2,ap v2]))) hp g)/\(∀(hp:List AObj) (g:R.σ),true=true/\Does Tryd.prog R 91 [i6 2] hp g (ret (agg 2 (nth [i6 2,AV.bool false]))) hp g)/\OpOk Tryd.prog R (Oper.mk (some 10) (Op.buildSlice 73 1 #[(0,Operand.tmp 9)]) 73 "law.go:21" #[Edge.mk 8 Ground.data] none) (evO u1 u6 []) u2 g (ap v3) u2 g/\(∀(hp:List AObj) (g:R.σ),true=true/\Does Tryd.prog R 90 [i6 3,ap v3] hp g (ret (agg 2 (nth [i6 3,ap v3]))) hp g)/\(∀(hp:List AObj) (g:R.σ),true=true/\Does Tryd.prog R 92 [i6 5] hp g (ret (agg 2 (nth [i6 5,AV.bool true]))) hp g)/\OpOk Tryd.prog R (Oper.mk (some 13) (Op.buildSlice 73 1 #[(0,Operand.tmp 12)]) 73 "law.go:21" #[Edge.mk 11 Ground.data] none) (evO u3 u6 []) u2 g (ap v4) u2 g/\(∀(hp:List AObj) (g:R.σ),true=true/\Does Tryd.prog R 90 [i6 4,ap v4] hp g (ret (agg 2 (nth [i6 4,ap v4]))) hp g)/\(∀(hp:List AObj) (g:R.σ),true=true/\Does Tryd.prog R 92 [i6 4] hp g (ret (agg 2 (nth [i6 4,AV.bool true]))) hp g)/\OpOk Tryd.prog R (Oper.mk (some 16) (Op.buildSlice 73 1 #[(0,Operand.tmp 15)]) 73 "law.go:21" #[Edge.mk 14 Ground.data] none) (evO u5 u6 []) u2 g (ap v5) u2 g/\(∀(hp:List AObj) (g:R.σ),true=true/\Does Tryd.prog R 90 [i6 5,ap v5] hp g (ret (agg 2 (nth [i6 5,ap v5]))) hp g)/\OpOk Tryd.prog R (Oper.mk (some 18) (Op.buildSlice 22 6 #[(0,Operand.tmp 1),(1,Operand.tmp 5),(2,Operand.tmp 8),(3,Operand.tmp 11),(4,Operand.tmp 14),(5,Operand.tmp 17)]) 22 "law.go:21" #[Edge.mk 0 Ground.data,Edge.mk 4 Ground.data,Edge.mk 7 Ground.data,Edge.mk 10 Ground.data,Edge.mk 13 Ground.data,Edge.mk 16 Ground.data] none) (evO (Row.mk (some 17) none (agg 2 (nth [i6 5,ap v5])) false (some []) []::Row.mk (some 16) none (ap v5) true (some []) []::u5) u6 []) u2 g (ae w) u2 g/\2<=2/\(∀(c:Nat),c<2->nth [i6 6,ae w] c=ao (nth [i6 0,fz Fz.nil 0 0 fun x x_1=>any]) 0 2 (List.brecOn (motive:=fun (x:List AV)=>Nat->AV) [i6 6,ae w] nth._f) c)/\Q AEx.ret (St.mk u6 [cO 2 (nth [i6 6,ae w])] g)) ([(0,ref 0 0)])) (Row.mk (some 15) none (agg 2 (nth [i6 4,AV.bool true])) false (some []) []::Row.mk (some 14) none (agg 2 (nth [i6 4,ap v4])) false (some []) []::Row.mk (some 13) none (ap v4) true (some []) []::u3)) ([Row.mk (some 3) none (agg 2 (nth [i6 2,AV.bool true])) false (some []) [],Row.mk (some 2) none (agg 2 (nth [i6 0,AV.bool false])) false (some []) [],Row.mk (some 1) none (agg 2 (nth [i6 0,fz Fz.nil 2 0 fun i=>iE (List.getD [] i default)])) false (some []) []])) (Row.mk (some 12) none (agg 2 (nth [i6 5,AV.bool true])) false (some []) []::Row.mk (some 11) none (agg 2 (nth [i6 3,ap v3])) false (some []) []::Row.mk (some 10) none (ap v3) true (some []) []::u1)) ([cO 2 (nth [i6 0,fz Fz.nil 0 0 fun x x_1=>any])])) ([Row.mk (some 9) none (agg 2 (nth [i6 2,AV.bool false])) false (some []) [],Row.mk (some 8) none (agg 2 (nth [i6 2,ap v2])) false (some []) [],Row.mk (some 7) none (ap v2) true (some []) [],Row.mk (some 6) none (agg 2 (nth [i6 3,AV.bool false])) false (some []) [],Row.mk (some 5) none (agg 2 (nth [i6 1,ap v1])) false (some []) [],Row.mk (some 4) none (ap v1) true (some []) [],Row.mk (some 3) none (agg 2 (nth [i6 2,AV.bool true])) false (some []) [],Row.mk (some 2) none (agg 2 (nth [i6 0,AV.bool false])) false (some []) [],Row.mk (some 1) none (agg 2 (nth [i6 0,fz Fz.nil 2 0 fun i=>iE (List.getD [] i default)])) false (some []) []])) ⟨(fun _ _=>⟨rfl,(nk (args':=[i6 0,ap (KL.mk [] Fz.nil)]) (fc _ _ (KL.mk [] Fz.nil) _ _) (by exact⟨AM _,Le.nil,trivial⟩) (AM _))⟩),(fun _ _=>⟨rfl,(ki _ _ _ _)⟩),(fun _ _=>⟨rfl,(kj _ _ _ _)⟩),?_,(fun _ _=>⟨rfl,(fc _ _ _ _ _)⟩),(fun _ _=>⟨rfl,(ki _ _ _ _)⟩),?_,(fun _ _=>⟨rfl,(fc _ _ _ _ _)⟩),(fun _ _=>⟨rfl,(ki _ _ _ _)⟩),?_,(fun _ _=>⟨rfl,(fc _ _ _ _ _)⟩),(fun _ _=>⟨rfl,(kj _ _ _ _)⟩),?_,(fun _ _=>⟨rfl,(fc _ _ _ _ _)⟩),(fun _ _=>⟨rfl,(kj _ _ _ _)⟩),?_,(fun _ _=>⟨rfl,(fc _ _ _ _ _)⟩),?_,omg,(fun c hc=>match c,hc with|0,_=>krf|1,_=>krf ),?_⟩
 ·subst e1;exact b8 (n:=2) (es:=2) krf (by exact⟨⟨⟨trivial,trivial⟩,trivial⟩,⟨⟨trivial,trivial⟩,trivial⟩,trivial⟩) rfl rfl (fun i hi j hj=>match i,hi,j,hj with|0,_,0,_=>krf|0,_,1,_=>krf|1,_,0,_=>krf|1,_,1,_=>krf ) (fun i hi j hj=>match i,hi,j,hj with|0,_,0,_=>trivial|0,_,1,_=>trivial|1,_,0,_=>trivial|1,_,1,_=>trivial )
 ·subst e2;exact b8 (n:=1) (es:=2) krf (by exact⟨⟨⟨trivial,trivial⟩,trivial⟩,trivial⟩) rfl rfl (fun i hi j hj=>match i,hi,j,hj with|0,_,0,_=>krf|0,_,1,_=>krf ) (fun i hi j hj=>match i,hi,j,hj with|0,_,0,_=>trivial|0,_,1,_=>trivial )
 ·subst e3;exact b8 (n:=1) (es:=2) krf (by exact⟨⟨⟨trivial,trivial⟩,trivial⟩,trivial⟩) rfl rfl (fun i hi j hj=>match i,hi,j,hj with|0,_,0,_=>krf|0,_,1,_=>krf ) (fun i hi j hj=>match i,hi,j,hj with|0,_,0,_=>trivial|0,_,1,_=>trivial )
 ·subst e4;exact b8 (n:=1) (es:=2) krf (by exact⟨⟨⟨trivial,trivial⟩,trivial⟩,trivial⟩) rfl rfl (fun i hi j hj=>match i,hi,j,hj with|0,_,0,_=>krf|0,_,1,_=>krf ) (fun i hi j hj=>match i,hi,j,hj with|0,_,0,_=>trivial|0,_,1,_=>trivial )
 ·subst e5;exact b8 (n:=1) (es:=2) krf (by exact⟨⟨⟨trivial,trivial⟩,trivial⟩,trivial⟩) rfl rfl (fun i hi j hj=>match i,hi,j,hj with|0,_,0,_=>krf|0,_,1,_=>krf ) (fun i hi j hj=>match i,hi,j,hj with|0,_,0,_=>trivial|0,_,1,_=>trivial )
 ·subst e1 e2 e3 e4 e5 f;exact b8 (n:=6) (es:=2) krf (by exact⟨⟨⟨trivial,trivial⟩,trivial⟩,⟨⟨trivial,trivial⟩,trivial⟩,⟨⟨trivial,trivial⟩,trivial⟩,⟨⟨trivial,trivial⟩,trivial⟩,⟨⟨trivial,trivial⟩,trivial⟩,⟨⟨trivial,trivial⟩,trivial⟩,trivial⟩) rfl rfl (fun i hi j hj=>match i,hi,j,hj with|0,_,0,_=>krf|0,_,1,_=>krf|1,_,0,_=>krf|1,_,1,_=>krf|2,_,0,_=>krf|2,_,1,_=>krf|3,_,0,_=>krf|3,_,1,_=>krf|4,_,0,_=>krf|4,_,1,_=>krf|5,_,0,_=>krf|5,_,1,_=>krf ) (fun i hi j hj=>match i,hi,j,hj with|0,_,0,_=>trivial|0,_,1,_=>trivial|1,_,0,_=>trivial|1,_,1,_=>trivial|2,_,0,_=>trivial|2,_,1,_=>trivial|3,_,0,_=>trivial|3,_,1,_=>trivial|4,_,0,_=>trivial|4,_,1,_=>trivial|5,_,0,_=>trivial|5,_,1,_=>trivial )
 ·refine(av (bE (agg 2 (nth [i6 6,fz w.2 2 (w.l.length) fun (i:Nat)=>br (w.l.getD i default)])) ([0+(TyI.mk ((fun (x:TypeInfo)=>x.desc) Tryd.prog.types[23]) Tryd.prog.types[24].size Tryd.prog.types[24].bytes (cd (dk (Value.agg #[Value.int i64 0,Value.slice none 0 0]))) (cL ((fun (x:TypeInfo)=>x.desc) Tryd.prog.types[23])) (dI Tryd.prog 24)).size<=2]) krf (by exact⟨dcd,trivial⟩) ⟨⟨trivial,trivial⟩,trivial⟩ rfl) (AN krf))
theorem c_B (R:Res)(hp:List AObj)(g:R.σ):Does Tryd.prog R 45 [] hp g (.ret (aw tB)) hp g:=by
 refine bN (fun R g=>?_) (by exact trivial) R hp g
 obtain⟨v1,e1⟩:∃v,v=tB1:=⟨_,rfl⟩
 obtain⟨v2,e2⟩:∃v,v=tB2:=⟨_,rfl⟩
 obtain⟨v3,e3⟩:∃v,v=tB3:=⟨_,rfl⟩
 obtain⟨v4,e4⟩:∃v,v=tB4:=⟨_,rfl⟩
 obtain⟨w,f⟩:∃v,v=tBR:=⟨_,rfl⟩
 show Does _ _ _ _ _ _ (.ret (aw ⟨3,tBR⟩)) _ _
 rw[<-f]
 refine spW (nt:=15) (rs:=[.cell 0 24]) (k0:=0) ?_
 refine vcR [] (lkL [(0,[0]),(1,[0])]) (lkL [(1,[(0,ROrc.pcall (ca (Lit.mk 1 true))),(1,ROrc.kop (ap v1)),(2,ROrc.pcall (bU (Rule.mk 0 v1))),(3,ROrc.pcall (ca (Lit.mk 0 true))),(4,ROrc.kop (ap v2)),(5,ROrc.pcall (bU (Rule.mk 1 v2))),(6,ROrc.pcall (ca (Lit.mk 0 false))),(7,ROrc.kop (ap v3)),(8,ROrc.pcall (bU (Rule.mk 2 v3))),(9,ROrc.pcall (ca (Lit.mk 1 false))),(10,ROrc.kop (ap v4)),(11,ROrc.pcall (bU (Rule.mk 2 v4))),(12,ROrc.kop (ae w)),(14,ROrc.val (Orc.obj (nth [i6 3,ae w])))])]) (fun Q=>(fun (u1:List Row)=>(fun (u2:List AObj)=>(fun (u3:List Row)=>(fun (u4:Row)=>(fun (u5:AV)=>(∀(hp:List AObj) (g:R.σ),true=true/\Does Tryd.prog R 92 [i6 1] hp g (ret (agg 2 (nth [i6 1,AV.bool true]))) hp g)/\OpOk Tryd.prog R (Oper.mk (some 2) (Op.buildSlice 73 1 #[(0,Operand.tmp 1)]) 73 "law.go:25" #[Edge.mk 0 Ground.data] none) (evO [u4] [(0,ref 0 0)] []) u2 g (ap v1) u2 g/\(∀(hp:List AObj) (g:R.σ),true=true/\Does Tryd.prog R 90 [u5,ap v1] hp g (ret (agg 2 (nth [u5,ap v1]))) hp g)/\(∀(hp:List AObj) (g:R.σ),true=true/\Does Tryd.prog R 92 [u5] hp g (ret (agg 2 (nth [u5,AV.bool true]))) hp g)/\OpOk Tryd.prog R (Oper.mk (some 5) (Op.buildSlice 73 1 #[(0,Operand.tmp 4)]) 73 "law.go:25" #[Edge.mk 3 Ground.data] none) (evO [Row.mk (some 4) none (agg 2 (nth [u5,AV.bool true])) false (some []) [],Row.mk (some 3) none (agg 2 (nth [u5,ap v1])) false (some []) [],Row.mk (some 2) none (ap v1) true (some []) [],u4] [(0,ref 0 0)] []) u2 g (ap v2) u2 g/\(∀(hp:List AObj) (g:R.σ),true=true/\Does Tryd.prog R 90 [i6 1,ap v2] hp g (ret (agg 2 (nth [i6 1,ap v2]))) hp g)/\(∀(hp:List AObj) (g:R.σ),true=true/\Does Tryd.prog R 91 [u5] hp g (ret (agg 2 (nth [u5,AV.bool false]))) hp g)/\OpOk Tryd.prog R (Oper.mk (some 8) (Op.buildSlice 73 1 #[(0,Operand.tmp 7)]) 73 "law.go:25" #[Edge.mk 6 Ground.data] none) (evO u1 [(0,ref 0 0)] []) u2 g (ap v3) u2 g/\(∀(hp:List AObj) (g:R.σ),true=true/\Does Tryd.prog R 90 [i6 2,ap v3] hp g (ret (agg 2 (nth [i6 2,ap v3]))) hp g)/\(∀(hp:List AObj) (g:R.σ),true=true/\Does Tryd.prog R 91 [i6 1] hp g (ret (agg 2 (nth [i6 1,AV.bool false]))) hp g)/\OpOk Tryd.prog R (Oper.mk (some 11) (Op.buildSlice 73 1 #[(0,Operand.tmp 10)]) 73 "law.go:25" #[Edge.mk 9 Ground.data] none) (evO u3 [(0,ref 0 0)] []) u2 g (ap v4) u2 g/\(∀(hp:List AObj) (g:R.σ),true=true/\Does Tryd.prog R 90 [i6 2,ap v4] hp g (ret (agg 2 (nth [i6 2,ap v4]))) hp g)/\OpOk Tryd.prog R (Oper.mk (some 13) (Op.buildSlice 22 4 #[(0,Operand.tmp 3),(1,Operand.tmp 6),(2,Operand.tmp 9),(3,Operand.tmp 12)]) 22 "law.go:25" #[Edge.mk 2 Ground.data,Edge.mk 5 Ground.data,Edge.mk 8 Ground.data,Edge.mk 11 Ground.data] none) (evO (Row.mk (some 12) none (agg 2 (nth [i6 2,ap v4])) false (some []) []::Row.mk (some 11) none (ap v4) true (some []) []::u3) [(0,ref 0 0)] []) u2 g (ae w) u2 g/\2<=2/\(∀(c:Nat),c<2->nth [i6 3,ae w] c=ao (nth [u5,fz Fz.nil 0 0 fun x x_1=>any]) 0 2 (List.brecOn (motive:=fun (x:List AV)=>Nat->AV) [i6 3,ae w] nth._f) c)/\Q AEx.ret (St.mk [(0,ref 0 0)] [cO 2 (nth [i6 3,ae w])] g)) (i6 0)) (Row.mk (some 1) none (agg 2 (nth [i6 1,AV.bool true])) false (some []) [])) (Row.mk (some 10) none (agg 2 (nth [i6 1,AV.bool false])) false (some []) []::Row.mk (some 9) none (agg 2 (nth [i6 2,ap v3])) false (some []) []::Row.mk (some 8) none (ap v3) true (some []) []::u1)) ([cO 2 (nth [i6 0,fz Fz.nil 0 0 fun x x_1=>any])])) ([Row.mk (some 7) none (agg 2 (nth [i6 0,AV.bool false])) false (some []) [],Row.mk (some 6) none (agg 2 (nth [i6 1,ap v2])) false (some []) [],Row.mk (some 5) none (ap v2) true (some []) [],Row.mk (some 4) none (agg 2 (nth [i6 0,AV.bool true])) false (some []) [],Row.mk (some 3) none (agg 2 (nth [i6 0,ap v1])) false (some []) [],Row.mk (some 2) none (ap v1) true (some []) [],Row.mk (some 1) none (agg 2 (nth [i6 1,AV.bool true])) false (some []) []])) ⟨(fun _ _=>⟨rfl,(kj _ _ _ _)⟩),?_,(fun _ _=>⟨rfl,(fc _ _ _ _ _)⟩),(fun _ _=>⟨rfl,(kj _ _ _ _)⟩),?_,(fun _ _=>⟨rfl,(fc _ _ _ _ _)⟩),(fun _ _=>⟨rfl,(ki _ _ _ _)⟩),?_,(fun _ _=>⟨rfl,(fc _ _ _ _ _)⟩),(fun _ _=>⟨rfl,(ki _ _ _ _)⟩),?_,(fun _ _=>⟨rfl,(fc _ _ _ _ _)⟩),?_,omg,(fun c hc=>match c,hc with|0,_=>krf|1,_=>krf ),?_⟩
 ·subst e1;exact b8 (n:=1) (es:=2) krf (by exact⟨⟨⟨trivial,trivial⟩,trivial⟩,trivial⟩) rfl rfl (fun i hi j hj=>match i,hi,j,hj with|0,_,0,_=>krf|0,_,1,_=>krf ) (fun i hi j hj=>match i,hi,j,hj with|0,_,0,_=>trivial|0,_,1,_=>trivial )
 ·subst e2;exact b8 (n:=1) (es:=2) krf (by exact⟨⟨⟨trivial,trivial⟩,trivial⟩,trivial⟩) rfl rfl (fun i hi j hj=>match i,hi,j,hj with|0,_,0,_=>krf|0,_,1,_=>krf ) (fun i hi j hj=>match i,hi,j,hj with|0,_,0,_=>trivial|0,_,1,_=>trivial )
 ·subst e3;exact b8 (n:=1) (es:=2) krf (by exact⟨⟨⟨trivial,trivial⟩,trivial⟩,trivial⟩) rfl rfl (fun i hi j hj=>match i,hi,j,hj with|0,_,0,_=>krf|0,_,1,_=>krf ) (fun i hi j hj=>match i,hi,j,hj with|0,_,0,_=>trivial|0,_,1,_=>trivial )
 ·subst e4;exact b8 (n:=1) (es:=2) krf (by exact⟨⟨⟨trivial,trivial⟩,trivial⟩,trivial⟩) rfl rfl (fun i hi j hj=>match i,hi,j,hj with|0,_,0,_=>krf|0,_,1,_=>krf ) (fun i hi j hj=>match i,hi,j,hj with|0,_,0,_=>trivial|0,_,1,_=>trivial )
 ·subst e1 e2 e3 e4 f;exact b8 (n:=4) (es:=2) krf (by exact⟨⟨⟨trivial,trivial⟩,trivial⟩,⟨⟨trivial,trivial⟩,trivial⟩,⟨⟨trivial,trivial⟩,trivial⟩,⟨⟨trivial,trivial⟩,trivial⟩,trivial⟩) rfl rfl (fun i hi j hj=>match i,hi,j,hj with|0,_,0,_=>krf|0,_,1,_=>krf|1,_,0,_=>krf|1,_,1,_=>krf|2,_,0,_=>krf|2,_,1,_=>krf|3,_,0,_=>krf|3,_,1,_=>krf ) (fun i hi j hj=>match i,hi,j,hj with|0,_,0,_=>trivial|0,_,1,_=>trivial|1,_,0,_=>trivial|1,_,1,_=>trivial|2,_,0,_=>trivial|2,_,1,_=>trivial|3,_,0,_=>trivial|3,_,1,_=>trivial )
 ·refine(av (bE (agg 2 (nth [i6 3,fz w.2 2 (w.l.length) fun (i:Nat)=>br (w.l.getD i default)])) ([0+(TyI.mk ((fun (x:TypeInfo)=>x.desc) Tryd.prog.types[23]) Tryd.prog.types[24].size Tryd.prog.types[24].bytes (cd (dk (Value.agg #[Value.int i64 0,Value.slice none 0 0]))) (cL ((fun (x:TypeInfo)=>x.desc) Tryd.prog.types[23])) (dI Tryd.prog 24)).size<=2]) krf (by exact⟨dcd,trivial⟩) ⟨⟨trivial,trivial⟩,trivial⟩ rfl) (AN krf))
theorem zD (R:Res)(hp:List AObj)(g:R.σ):Does Tryd.prog R 57 [] hp g (.ret (ax tS)) hp g:=by
 refine bN (fun R g=>?_) (by exact trivial) R hp g
 obtain⟨v1,e1⟩:∃v,v=tS1:=⟨_,rfl⟩
 obtain⟨v2,e2⟩:∃v,v=tS2:=⟨_,rfl⟩
 obtain⟨v3,e3⟩:∃v,v=tS3:=⟨_,rfl⟩
 obtain⟨w,f⟩:∃v,v=tS:=⟨_,rfl⟩
 rw[<-f]
 refine spW (nt:=8) (rs:=[.tmp 0]) (k0:=0) ?_
 refine vcR [] (lkL [(1,[0])]) (lkL [(1,[(0,ROrc.kop (ah v1)),(2,ROrc.kop (ah v2)),(4,ROrc.kop (ah v3)),(6,ROrc.kop (ax w))])]) (fun Q=>(fun (u1:List Row)=>OpOk Tryd.prog R (Oper.mk (some 1) (Op.buildSlice 53 1 #[(0,Operand.const (Value.int i64 0))]) 53 "law.go:30" #[] none) (evO [] [] []) [] g (ah v1) [] g/\OpOk Tryd.prog R (Oper.mk (some 3) (Op.buildSlice 53 2 #[(0,Operand.const (Value.int i64 2)),(1,Operand.const (Value.int i64 3))]) 53 "law.go:30" #[] none) (evO [Row.mk (some 2) none (agg 2 (nth [i6 0,ah v1])) false (some []) [],Row.mk (some 1) none (ah v1) true (some []) []] [] []) [] g (ah v2) [] g/\OpOk Tryd.prog R (Oper.mk (some 5) (Op.buildSlice 53 1 #[(0,Operand.const (Value.int i64 1))]) 53 "law.go:30" #[] none) (evO u1 [] []) [] g (ah v3) [] g/\OpOk Tryd.prog R (Oper.mk (some 7) (Op.buildSlice 29 3 #[(0,Operand.tmp 2),(1,Operand.tmp 4),(2,Operand.tmp 6)]) 29 "law.go:30" #[Edge.mk 1 Ground.data,Edge.mk 3 Ground.data,Edge.mk 5 Ground.data] none) (evO (Row.mk (some 6) none (agg 2 (nth [i6 1,ah v3])) false (some []) []::Row.mk (some 5) none (ah v3) true (some []) []::u1) [] []) [] g (ax w) [] g/\Q AEx.ret (St.mk [(0,ax w)] [] g)) ([Row.mk (some 4) none (agg 2 (nth [i6 (-1),ah v2])) false (some []) [],Row.mk (some 3) none (ah v2) true (some []) [],Row.mk (some 2) none (agg 2 (nth [i6 0,ah v1])) false (some []) [],Row.mk (some 1) none (ah v1) true (some []) []])) ⟨?_,?_,?_,?_,?_⟩
 ·subst e1;exact b8 (n:=1) (es:=1) krf (by exact⟨trivial,trivial⟩) rfl rfl (fun i hi j hj=>match i,hi,j,hj with|0,_,0,_=>krf ) (fun i hi j hj=>match i,hi,j,hj with|0,_,0,_=>trivial )
 ·subst e2;exact b8 (n:=2) (es:=1) krf (by exact⟨trivial,trivial,trivial⟩) rfl rfl (fun i hi j hj=>match i,hi,j,hj with|0,_,0,_=>krf|1,_,0,_=>krf ) (fun i hi j hj=>match i,hi,j,hj with|0,_,0,_=>trivial|1,_,0,_=>trivial )
 ·subst e3;exact b8 (n:=1) (es:=1) krf (by exact⟨trivial,trivial⟩) rfl rfl (fun i hi j hj=>match i,hi,j,hj with|0,_,0,_=>krf ) (fun i hi j hj=>match i,hi,j,hj with|0,_,0,_=>trivial )
 ·subst e1 e2 e3 f;exact b8 (n:=3) (es:=2) krf (by exact⟨⟨⟨trivial,trivial⟩,trivial⟩,⟨⟨trivial,trivial⟩,trivial⟩,⟨⟨trivial,trivial⟩,trivial⟩,trivial⟩) rfl rfl (fun i hi j hj=>match i,hi,j,hj with|0,_,0,_=>krf|0,_,1,_=>krf|1,_,0,_=>krf|1,_,1,_=>krf|2,_,0,_=>krf|2,_,1,_=>krf ) (fun i hi j hj=>match i,hi,j,hj with|0,_,0,_=>trivial|0,_,1,_=>trivial|1,_,0,_=>trivial|1,_,1,_=>trivial|2,_,0,_=>trivial|2,_,1,_=>trivial )
 ·refine(av (aX _ _ rfl trivial rfl rfl rfl) (AN krf))
theorem mc:aD tA=true:=by kernel_rfl
theorem zE:aD tB=true:=by kernel_rfl
theorem zF:(am tA).1=[⟨0,[0]⟩,⟨-1,[2,3]⟩,⟨1,[1]⟩]:=by kernel_rfl
theorem s4:(cK tA (am tA).2).l=[2,2,1,1,3,3]:=by kernel_rfl
theorem s5:cA tA=[1,12,2,48]:=by kernel_rfl
theorem zG:(am (ar tA (hgP tA 1))).2 1=2:=by kernel_rfl
theorem zH:(cu (hgP tA 1) (aT (hgP tA 1) tA.rules.l 0) (am (ar tA (hgP tA 1))).1).l.map dw=tS.l.map dw:=by kernel_rfl
theorem zI:(bo (d8 tB)).length<=10:=by decide
theorem s6:stP tB 9=[6,5]:=by kernel_rfl
def tT:KL Step:=⟨[⟨1,tS3⟩],.opn⟩
def tV:KL Int:=⟨[2,2,1,1,3,3],.exa⟩
def tO1:KL Int:=⟨[0],.exa⟩
def tO2:KL Int:=⟨[2,3],.exa⟩
def tO3:KL Int:=⟨[1],.exa⟩
def tO4:KL Int:=⟨[4,5],.exa⟩
def tO (i:Nat):KL Int:=[tO1,tO2,tO3,tO4].getD i ⟨[],.nil⟩
def tM1:KL Int:=⟨[1,2],.exa⟩
def tM2:KL Int:=⟨[0,2],.exa⟩
def tM (i:Nat):KL Int:=[tM1,tM2].getD i ⟨[],.nil⟩
theorem zJ:cH tA (fun _=>3) (tT.l.getD 0 default)=false:=by kernel_rfl
theorem zK:(bv (am tA).1).l.map dw=tS.l.map dw:=by kernel_rfl
theorem zL:∀i,((bv (am tA).1).l.getD i default).atoms.l.length<1000000:=by
 intro i
 match i with
 |0=>exact of_decide_eq_true krf
 |1=>exact of_decide_eq_true krf
 |2=>exact of_decide_eq_true krf
 |_+3=>exact of_decide_eq_true krf
theorem zM:∀i,((cu (hgP tA 1) (aT (hgP tA 1) tA.rules.l 0) (am (ar tA (hgP tA 1))).1).l.getD i default).atoms.l.length<1000000:=by
 intro i
 match i with
 |0=>exact of_decide_eq_true krf
 |1=>exact of_decide_eq_true krf
 |2=>exact of_decide_eq_true krf
 |_+3=>exact of_decide_eq_true krf
theorem s7 {s:Nat}:(ai s).l.length<1000000:=by
 show(bo s).length<1000000
 rw[fJ]
 have:=gR s
 omega
def lsX (n:Nat)(b:Nat->KL Int):AV:=.fz .exa 1 n (fun i _=>ah (b i))
theorem s8 (R:Res)(n:Nat)(a b:Nat->KL Int)(hp:List AObj)(g:R.σ)(hn:n<1000000)(h:∀i,i<n->(a i).l=(b i).l)(hl:∀i,(a i).l.length<1000000) :
  Does Tryd.prog R 29 [du n a,.fz .exa 1 n (fun i _=>ah (b i))] hp g (.ret (.bool true)) hp g:=by
 refine bN (fun R g=>?_) (by exact⟨trivial,trivial,trivial⟩) R hp g
 refine spW (nt:=34) (rs:=[.tmp 4]) (k0:=0) ?_
 refine vcR [] (lkL [(0,[0,1]),(1,[0,1,5])]) (fun _=>[]) (fun (Q:AEx->St R.σ->Prop)=>WpC Tryd.prog R 34 0 29 [1,0,1,0] Q [Kont.blk 0,Kont.seq [1,1]] (St.mk [(0,du n a),(1,fz Fz.exa 1 n fun (i x:Nat)=>ah (b i)),(5,i6 0)] [] g)) (?_)
 refine(bi krf (fun (i:Nat)=>⟨[(0,du n a),(1,fz Fz.exa 1 n fun (i x:Nat)=>ah (b i)),(5,.int .i64 i)],[],g⟩) (fun (i:Nat)=>(i<=n)) (fun (i:Nat)=>(n-i)) 0 (aY ⟨AM _,AM _,(AN krf),trivial⟩ rfl rfl) ?_ (fun i hi=>?_))
 ·omega
 ·have h1:=hl i
  refine vcR [] (lkL [(2,[0,1,5,16]),(4,[0,1,5,28]),(5,[4]),(3,[0,1,5])]) (lkL [(4,[(8,ROrc.pcall (AV.bool (decide ((a i).l=(b i).l))))])]) (fun Q=>(fun (u1:Bool)=>(fun (u2:Int)=>(u1=true->Flw Tryd.prog/\(0<=u2/\u2<(↑n:Int))/\1<=1/\(0<=u2/\u2<(↑n:Int))/\1<=1/\(∀(hp:List AObj) (g:R.σ),true=true/\Does Tryd.prog R 33 [ah (a i),ah (b i)] hp g (ret (AV.bool (decide ((a i).l=(b i).l)))) hp g)/\((!decide ((a i).l=(b i).l))=true->Q AEx.ret (St.mk [(4,AV.bool false)] [] g))/\((!decide ((a i).l=(b i).l))=false->(-9223372036854775808<=u2+1/\u2+1<=9223372036854775807)/\Q AEx.normal (St.mk [(0,du n a),(1,fz Fz.exa 1 n fun i x=>ah (b i)),(5,i6 (u2+1))] [] g)))/\(u1=false->Q (AEx.exit 0) (St.mk [(0,du n a),(1,fz Fz.exa 1 n fun i x=>ah (b i)),(5,i6 u2),(16,AV.bool u1)] [] g))) ((↑i:Int))) (bif decide ((↑i:Int)<(↑n:Int)) then(↑n:Int)==(↑n:Int) else false)) ⟨fun c1=>have c1:(↑i:Int)<(↑n:Int)/\(↑n:Int)=(↑n:Int):=⟨(of_decide_eq_true (dO c1).1),(beq_iff_eq.mp (dO c1).2)⟩;⟨krf,omg,omg,omg,omg,(fun _ _=>⟨rfl,(rG _ _ _ _ _ omg)⟩),fun c2=>have c2:¬(a i).l=(b i).l:=(of_decide_eq_false ((Bool.not_eq_true' _).mp c2));?_,fun c2=>have c2:(a i).l=(b i).l:=(of_decide_eq_true ((Bool.not_eq_false' _).mp c2));⟨omg,?_⟩⟩,fun c1=>have c1:¬(↑i:Int)<(↑n:Int)∨¬(↑n:Int)=(↑n:Int):=((gH c1).imp (fun h=>(of_decide_eq_false h)) (fun h=>(beq_eq_false_iff_ne.mp h)));?_⟩
  ·exact absurd (h i omg) c2
  ·refine(aW (i+1) (aY ⟨AM _,AM _,(AN krf),trivial⟩ rfl rfl) ?_ ?_)
   ·omega
   ·omega
  ·refine⟨_,A0 _,vcR [] (lkL [(6,[4])]) (fun _=>[]) (fun (Q:AEx->St R.σ->Prop)=>Q AEx.ret (St.mk [(4,AV.bool ((↑n:Int)==(↑n:Int)))] [] g)) (?_)⟩
   refine(av (aX _ _ rfl trivial rfl rfl rfl) (AN ?_))
   show(AV.bool ((↑n:Int)==(↑n:Int)))=_
   show AV.bool _=AV.bool _
   simp
theorem s9 (R:Res)[Tab LT R](g:R.σ):Does Tryd.prog R 15 [] [] g (.ret (.bool true)) [] g:=by
 have hD:∀(R:Res) [Tab LT R] (g:R.σ),Does Tryd.prog R 17 [aw tA] [] g (.ret (.tup 3 (nth [ax (bv (am tA).1),ah (cK tA (am tA).2),.int .i64 0]))) [] g:=fun R _ g=>oA R tA mc g
 have hW:∀(R:Res) [Tab LT R] (g:R.σ),Does Tryd.prog R 23 [aw tA,ax tT] [] g (.ret (.tup 2 (nth [.int .i64 0,.int .i64 7]))) [] g:=fun R _ g=>y8 R tA tT mc dcd dcd zJ g
 have hO:∀(R:Res) [Tab LT R] (g:R.σ),Does Tryd.prog R 31 [aw tA] [] g (.ret (.tup 2 (nth [du 4 (fun i=>ai ((cA tA).getD i 0)),.int .i64 0]))) [] g:=fun R _ g=>by
  have h:=zw R tA mc g
  rw[show(cA tA).length=4 by rw[s5];rfl] at h
  exact h
 have hN:∀(R:Res) [Tab LT R] (g:R.σ),Does Tryd.prog R 25 [aw tA,.int .i64 1] [] g (.ret (.tup 3 (nth [.int .i64 2,ax (cu (hgP tA 1) (aT (hgP tA 1) tA.rules.l 0) (am (ar tA (hgP tA 1))).1),.int .i64 0]))) [] g:=fun R _ g=>by
  have h:=oL R tA 1 mc dcd g
  rw[show(1:Int).toNat=1 from rfl,zG] at h
  exact h
 have hT:∀(R:Res) [Tab LT R] (g:R.σ),Does Tryd.prog R 27 [aw tB,.int .i64 9] [] g (.ret (.tup 2 (nth [du 2 (fun i=>ai ((stP tB 9).getD i 0)),.int .i64 0]))) [] g:=fun R _ g=>by
  have h:=zC R tB 9 zE dcd zI g
  rw[show(stP tB 9).length=2 by rw[s6];rfl] at h
  exact h
 have hS1:∀(R:Res) (hp:List AObj) (g:R.σ),Does Tryd.prog R 20 [ax (bv (am tA).1),ax tS] hp g (.ret (.bool true)) hp g:=fun R hp g=>by
  have h:=rH R (bv (am tA).1) tS hp g (by rw[sq,zF];decide) zL
  rw[decide_eq_true zK] at h
  exact h
 have hV1:∀(R:Res) (hp:List AObj) (g:R.σ),Does Tryd.prog R 21 [ah (cK tA (am tA).2),ah tV] hp g (.ret (.bool true)) hp g:=fun R hp g=>by
  have h:=xm R (cK tA (am tA).2) tV hp g (by rw[s4];decide)
  rw[decide_eq_true (show(cK tA (am tA).2).l=tV.l from s4)] at h
  exact h
 have hL1:∀(R:Res) (hp:List AObj) (g:R.σ),Does Tryd.prog R 29 [du 4 (fun i=>ai ((cA tA).getD i 0)),lsX 4 tO] hp g (.ret (.bool true)) hp g:=fun R hp g=>s8 R 4 _ _ hp g dcd (fun i hi=>by
  rw[s5]
  match i,hi with
  |0,_=>exact of_decide_eq_true krf
  |1,_=>exact of_decide_eq_true krf
  |2,_=>exact of_decide_eq_true krf
  |3,_=>exact of_decide_eq_true krf) (fun i=>s7)
 have hL2:∀(R:Res) (hp:List AObj) (g:R.σ),Does Tryd.prog R 29 [du 2 (fun i=>ai ((stP tB 9).getD i 0)),lsX 2 tM] hp g (.ret (.bool true)) hp g:=fun R hp g=>s8 R 2 _ _ hp g dcd (fun i hi=>by
  rw[s6]
  match i,hi with
  |0,_=>exact of_decide_eq_true krf
  |1,_=>exact of_decide_eq_true krf) (fun i=>s7)
 have hS2:∀(R:Res) (hp:List AObj) (g:R.σ),Does Tryd.prog R 20 [ax (cu (hgP tA 1) (aT (hgP tA 1) tA.rules.l 0) (am (ar tA (hgP tA 1))).1),ax tS] hp g (.ret (.bool true)) hp g:=fun R hp g=>by
  have h:=rH R (cu (hgP tA 1) (aT (hgP tA 1) tA.rules.l 0) (am (ar tA (hgP tA 1))).1) tS hp g (of_decide_eq_true krf) zM
  rw[decide_eq_true zH] at h
  exact h
 have hA:∀(R:Res) (hp:List AObj) (g:R.σ),Does Tryd.prog R 44 [] hp g (.ret (aw tA)) hp g:=fun R hp g=>c_A R hp g
 have hB:∀(R:Res) (hp:List AObj) (g:R.σ),Does Tryd.prog R 45 [] hp g (.ret (aw tB)) hp g:=fun R hp g=>c_B R hp g
 have hC:∀(R:Res) (hp:List AObj) (g:R.σ),Does Tryd.prog R 57 [] hp g (.ret (ax tS)) hp g:=fun R hp g=>zD R hp g
 obtain⟨n1,e1⟩:∃v,v=ax (bv (am tA).1):=⟨_,rfl⟩
 obtain⟨n2,e2⟩:∃v,v=ah (cK tA (am tA).2):=⟨_,rfl⟩
 obtain⟨n3,e3⟩:∃v,v=du 4 (fun i=>ai ((cA tA).getD i 0)):=⟨_,rfl⟩
 obtain⟨n4,e4⟩:∃v,v=ax (cu (hgP tA 1) (aT (hgP tA 1) tA.rules.l 0) (am (ar tA (hgP tA 1))).1):=⟨_,rfl⟩
 obtain⟨n5,e5⟩:∃v,v=du 2 (fun i=>ai ((stP tB 9).getD i 0)):=⟨_,rfl⟩
 simp only[<-e1,<-e2,<-e3,<-e4,<-e5] at hD hO hN hT hS1 hV1 hL1 hL2 hS2
 obtain⟨a,ha⟩:∃v,v=tA:=⟨_,rfl⟩
 obtain⟨b,hb⟩:∃v,v=tB:=⟨_,rfl⟩
 obtain⟨s,hs⟩:∃v,v=tS:=⟨_,rfl⟩
 obtain⟨t,ht⟩:∃v,v=tT:=⟨_,rfl⟩
 obtain⟨v,hv⟩:∃v,v=tV:=⟨_,rfl⟩
 rw[<-ha] at hA hD hW hO hN
 rw[<-hb] at hB hT
 rw[<-hs] at hC hS1 hS2
 rw[<-ht] at hW
 rw[<-hv] at hV1
 obtain⟨o1,w1⟩:∃v,v=tO1:=⟨_,rfl⟩
 obtain⟨o2,w2⟩:∃v,v=tO2:=⟨_,rfl⟩
 obtain⟨o3,w3⟩:∃v,v=tO3:=⟨_,rfl⟩
 obtain⟨o4,w4⟩:∃v,v=tO4:=⟨_,rfl⟩
 obtain⟨m1,w5⟩:∃v,v=tM1:=⟨_,rfl⟩
 obtain⟨m2,w6⟩:∃v,v=tM2:=⟨_,rfl⟩
 obtain⟨q1,w7⟩:∃v,v=tO:=⟨_,rfl⟩
 obtain⟨q2,w8⟩:∃v,v=tM:=⟨_,rfl⟩
 rw[<-w7] at hL1
 rw[<-w8] at hL2
 refine spW (nt:=97) (rs:=[.tmp 0]) (k0:=0) ?_
 refine vcR [[1,1,1,1,1,1,0,1,0]] (lkL [(1,[1,2,3]),(2,[1,2,3,4,5]),(3,[1,2,3,4,5,6,7]),(4,[1,2,3,4,5,6,7,8,9,10]),(5,[1,2,3,4,5,6,7,8,9,10,11,12]),(6,[1,2,4,6,8,9,11,59]),(8,[0])]) (lkL [(1,[(0,ROrc.pcall (aw a)),(1,ROrc.kcall (tup 3 (nth [n1,n2,i6 0])))]),(2,[(0,ROrc.pcall (aw a)),(1,ROrc.pcall (ax s)),(2,ROrc.kop (ax t)),(3,ROrc.kcall (tup 2 (nth [i6 0,i6 7])))]),(3,[(0,ROrc.pcall (aw a)),(1,ROrc.kcall (tup 2 (nth [n3,i6 0])))]),(4,[(0,ROrc.pcall (aw a)),(1,ROrc.kcall (tup 3 (nth [i6 2,n4,i6 0])))]),(5,[(0,ROrc.pcall (aw b)),(1,ROrc.kcall (tup 2 (nth [n5,i6 0])))]),(8,[(1,ROrc.pcall (ax s)),(2,ROrc.pcall (AV.bool true)),(5,ROrc.kop (ah v)),(6,ROrc.pcall (AV.bool true)),(14,ROrc.kop (ah o1)),(15,ROrc.kop (ah o2)),(16,ROrc.kop (ah o3)),(17,ROrc.kop (ah o4)),(18,ROrc.kop (lsX 4 q1)),(19,ROrc.pcall (AV.bool true)),(27,ROrc.pcall (ax s)),(28,ROrc.pcall (AV.bool true)),(32,ROrc.kop (ah m1)),(33,ROrc.kop (ah m2)),(34,ROrc.kop (lsX 2 q2)),(35,ROrc.pcall (AV.bool true))])]) (fun Q=>(fun (u1:List Row)=>(fun (u2:List Row)=>(fun (u3:List (Nat × AV))=>(fun (u4:List Row)=>(fun (u5:Operand)=>(fun (u6:Nat × Bool)=>(fun (u7:List Edge)=>(fun (u8:Operand)=>(fun (u9:List Row)=>(fun (u10:Operand)=>(fun (u11:List Row)=>(∀(hp:List AObj) (g:R.σ),true=true/\Does Tryd.prog R 44 [] hp g (ret (aw a)) hp g)/\(true=true/\Does Tryd.prog R 17 [aw a] [] g (ret (tup 3 (nth [n1,n2,i6 0]))) [] g)/\(∀(hp:List AObj) (g:R.σ),true=true/\Does Tryd.prog R 44 [] hp g (ret (aw a)) hp g)/\(∀(hp:List AObj) (g:R.σ),true=true/\Does Tryd.prog R 57 [] hp g (ret (ax s)) hp g)/\OpOk Tryd.prog R (Oper.mk (some 22) (Op.slice 29 (Operand.tmp 21) (some u5) none none) 29 "law.go:36" #[Edge.mk 1 Ground.data] none) (evO [Row.mk (some 21) none (ax s) false (some []) [],Row.mk (some 20) none (aw a) false (some []) []] [(1,n1),(2,n2),(3,i6 0)] []) [] g (ax t) [] g/\(true=true/\Does Tryd.prog R 23 [aw a,ax t] [] g (ret (tup 2 (nth [i6 0,i6 7]))) [] g)/\(∀(hp:List AObj) (g:R.σ),true=true/\Does Tryd.prog R 44 [] hp g (ret (aw a)) hp g)/\(true=true/\Does Tryd.prog R 31 [aw a] [] g (ret (tup 2 (nth [n3,i6 0]))) [] g)/\(∀(hp:List AObj) (g:R.σ),true=true/\Does Tryd.prog R 44 [] hp g (ret (aw a)) hp g)/\(true=true/\Does Tryd.prog R 25 [aw a,i6 1] [] g (ret (tup 3 (nth [i6 2,n4,i6 0]))) [] g)/\(∀(hp:List AObj) (g:R.σ),true=true/\Does Tryd.prog R 45 [] hp g (ret (aw b)) hp g)/\(true=true/\Does Tryd.prog R 27 [aw b,i6 9] [] g (ret (tup 2 (nth [n5,i6 0]))) [] g)/\(false=true->WpC Tryd.prog R 97 0 15 [1,1,1,1,1,1,0,1,0] Q [Kont.seq [1,1,1,1,1,1,1]] (St.mk u3 [] g))/\(false=false->(∀(hp:List AObj) (g:R.σ),true=true/\Does Tryd.prog R 57 [] hp g (ret (ax s)) hp g)/\(∀(hp:List AObj) (g:R.σ),true=true/\Does Tryd.prog R 20 [n1,ax s] hp g (ret (AV.bool true)) hp g)/\(true=true->OpOk Tryd.prog R (Oper.mk (some 65) (Op.buildSlice 33 6 #[(0,u5),(1,u5),(2,u8),(3,u8),(4,u10),(5,u10)]) 33 "law.go:43" #[Edge.mk 3 Ground.guard] (some (3,true))) (evO [Row.mk (some 64) (some (3,true)) n2 false (some []) [],Row.mk (some 63) none (AV.bool true) false (some []) [],Row.mk (some 62) none (AV.bool true) false (some []) [],Row.mk (some 61) none (ax s) false (some []) [],Row.mk (some 60) none n1 false (some []) []] u3 [(3,true)]) [] g (ah v) [] g)/\(true=true->∀(hp:List AObj) (g:R.σ),true=true/\Does Tryd.prog R 21 [n2,ah v] hp g (ret (AV.bool true)) hp g)/\(true=true->OpOk Tryd.prog R (Oper.mk (some 74) (Op.buildSlice 53 1 #[(0,Operand.const (Value.int i64 0))]) 53 "law.go:43" (List.toArray u7) (some u6)) (evO u1 u3 [u6]) [] g (ah o1) [] g)/\(true=true->OpOk Tryd.prog R (Oper.mk (some 75) (Op.buildSlice 53 2 #[(0,u5),(1,u10)]) 53 "law.go:43" (List.toArray u7) (some u6)) (evO (Row.mk (some 74) (some u6) (ah o1) true (some []) []::u1) u3 [u6]) [] g (ah o2) [] g)/\(true=true->OpOk Tryd.prog R (Oper.mk (some 76) (Op.buildSlice 53 1 #[(0,u8)]) 53 "law.go:43" (List.toArray u7) (some u6)) (evO u4 u3 [u6]) [] g (ah o3) [] g)/\(true=true->OpOk Tryd.prog R (Oper.mk (some 77) (Op.buildSlice 53 2 #[(0,Operand.const (Value.int i64 4)),(1,Operand.const (Value.int i64 5))]) 53 "law.go:43" (List.toArray u7) (some u6)) (evO u11 u3 [u6]) [] g (ah o4) [] g)/\(true=true->OpOk Tryd.prog R (Oper.mk (some 78) (Op.buildSlice 49 4 #[(0,Operand.tmp 74),(1,Operand.tmp 75),(2,Operand.tmp 76),(3,Operand.tmp 77)]) 49 "law.go:43" (List.toArray (Edge.mk 14 Ground.data::Edge.mk 15 Ground.data::Edge.mk 16 Ground.data::Edge.mk 17 Ground.data::u7)) (some u6)) (evO (Row.mk (some 77) (some u6) (ah o4) true (some []) []::u11) u3 [u6]) [] g (fz Fz.exa 1 4 fun i x=>ah (q1 i)) [] g)/\(true=true->∀(hp:List AObj) (g:R.σ),true=true/\Does Tryd.prog R 29 [n3,fz Fz.exa 1 4 fun i x=>ah (q1 i)] hp g (ret (AV.bool true)) hp g)/\(true=true->∀(hp:List AObj) (g:R.σ),true=true/\Does Tryd.prog R 57 [] hp g (ret (ax s)) hp g)/\(true=true->∀(hp:List AObj) (g:R.σ),true=true/\Does Tryd.prog R 20 [n4,ax s] hp g (ret (AV.bool true)) hp g)/\(true=true->OpOk Tryd.prog R (Oper.mk (some 92) (Op.buildSlice 53 2 #[(0,u8),(1,u5)]) 53 "law.go:43" #[Edge.mk 30 Ground.guard] (some (30,true))) (evO u2 u3 [(30,true)]) [] g (ah m1) [] g)/\(true=true->OpOk Tryd.prog R (Oper.mk (some 93) (Op.buildSlice 53 2 #[(0,Operand.const (Value.int i64 0)),(1,u5)]) 53 "law.go:43" #[Edge.mk 30 Ground.guard] (some (30,true))) (evO u9 u3 [(30,true)]) [] g (ah m2) [] g)/\(true=true->OpOk Tryd.prog R (Oper.mk (some 94) (Op.buildSlice 49 2 #[(0,Operand.tmp 92),(1,Operand.tmp 93)]) 49 "law.go:43" #[Edge.mk 32 Ground.data,Edge.mk 33 Ground.data,Edge.mk 30 Ground.guard] (some (30,true))) (evO (Row.mk (some 93) (some (30,true)) (ah m2) true (some []) []::u9) u3 [(30,true)]) [] g (fz Fz.exa 1 2 fun i x=>ah (q2 i)) [] g)/\(true=true->∀(hp:List AObj) (g:R.σ),true=true/\Does Tryd.prog R 29 [n5,fz Fz.exa 1 2 fun i x=>ah (q2 i)] hp g (ret (AV.bool true)) hp g)/\Q AEx.ret (St.mk [(0,AV.bool true)] [] g))) (Row.mk (some 76) (some u6) (ah o3) true (some []) []::u4)) (Operand.const (Value.int i64 3))) (Row.mk (some 92) (some (30,true)) (ah m1) true (some []) []::u2)) (Operand.const (Value.int i64 1))) ([Edge.mk 12 Ground.guard])) ((12,true))) (Operand.const (Value.int i64 2))) (Row.mk (some 75) (some (12,true)) (ah o2) true (some []) []::Row.mk (some 74) (some (12,true)) (ah o1) true (some []) []::u1)) ([(1,n1),(2,n2),(4,i6 0),(6,n3),(8,i6 2),(9,n4),(11,n5),(59,AV.bool false)])) (Row.mk (some 91) (some (30,true)) n5 false (some []) []::Row.mk (some 90) none (AV.bool true) false (some []) []::Row.mk (some 89) none (AV.bool true) false (some []) []::Row.mk (some 88) (some (25,true)) (AV.bool true) false (some []) []::Row.mk (some 87) (some (25,true)) (ax s) false (some []) []::Row.mk (some 86) (some (25,true)) n4 false (some []) []::Row.mk (some 85) none (AV.bool true) false (some []) []::Row.mk (some 84) none (AV.bool true) false (some []) []::Row.mk (some 83) (some (21,true)) (AV.bool true) false (some []) []::Row.mk (some 82) (some (21,true)) (i6 2) false (some []) []::Row.mk (some 81) none (AV.bool true) false (some []) []::Row.mk (some 80) none (AV.bool true) false (some []) []::Row.mk (some 79) (some (12,true)) (AV.bool true) false (some []) []::Row.mk (some 78) (some (12,true)) (fz Fz.exa 1 4 fun i x=>ah (q1 i)) true (some []) []::Row.mk (some 77) (some (12,true)) (ah o4) true (some []) []::Row.mk (some 76) (some (12,true)) (ah o3) true (some []) []::Row.mk (some 75) (some (12,true)) (ah o2) true (some []) []::Row.mk (some 74) (some (12,true)) (ah o1) true (some []) []::u1)) ([Row.mk (some 73) (some (12,true)) n3 false (some []) [],Row.mk (some 72) none (AV.bool true) false (some []) [],Row.mk (some 71) none (AV.bool true) false (some []) [],Row.mk (some 70) (some (8,true)) (AV.bool true) false (some []) [],Row.mk (some 69) (some (8,true)) (i6 0) false (some []) [],Row.mk (some 68) none (AV.bool true) false (some []) [],Row.mk (some 67) none (AV.bool true) false (some []) [],Row.mk (some 66) (some (3,true)) (AV.bool true) false (some []) [],Row.mk (some 65) (some (3,true)) (ah v) true (some []) [],Row.mk (some 64) (some (3,true)) n2 false (some []) [],Row.mk (some 63) none (AV.bool true) false (some []) [],Row.mk (some 62) none (AV.bool true) false (some []) [],Row.mk (some 61) none (ax s) false (some []) [],Row.mk (some 60) none n1 false (some []) []])) ⟨(fun _ _=>⟨rfl,(hA _ _ _)⟩),⟨rfl,(hD _ _)⟩,(fun _ _=>⟨rfl,(hA _ _ _)⟩),(fun _ _=>⟨rfl,(hC _ _ _)⟩),?_,⟨rfl,(hW _ _)⟩,(fun _ _=>⟨rfl,(hA _ _ _)⟩),⟨rfl,(hO _ _)⟩,(fun _ _=>⟨rfl,(hA _ _ _)⟩),⟨rfl,(hN _ _)⟩,(fun _ _=>⟨rfl,(hB _ _ _)⟩),⟨rfl,(hT _ _)⟩,fun h=>(nomatch h),fun _=>⟨(fun _ _=>⟨rfl,(hC _ _ _)⟩),(fun _ _=>⟨rfl,(hS1 _ _ _)⟩),?_,(fun hgd=>(fun _ _=>⟨rfl,(hV1 _ _ _)⟩)),?_,?_,?_,?_,?_,(fun hgd=>(fun _ _=>⟨rfl,(hL1 _ _ _)⟩)),(fun hgd=>(fun _ _=>⟨rfl,(hC _ _ _)⟩)),(fun hgd=>(fun _ _=>⟨rfl,(hS2 _ _ _)⟩)),?_,?_,?_,(fun hgd=>(fun _ _=>⟨rfl,(hL2 _ _ _)⟩)),?_⟩⟩
 ·subst hs ht
  exact nG rfl (by exact⟨Nat.le_refl _,⟨dcd,dcd⟩,trivial⟩) (ni rfl (fun i j hi hj=>match i,hi with|0,_=>rfl))
 ·intro _;subst hv;exact b8 (n:=6) (es:=1) krf (by exact⟨trivial,trivial,trivial,trivial,trivial,trivial,trivial⟩) rfl rfl (fun i hi j hj=>match i,hi,j,hj with|0,_,0,_=>krf|1,_,0,_=>krf|2,_,0,_=>krf|3,_,0,_=>krf|4,_,0,_=>krf|5,_,0,_=>krf ) (fun i hi j hj=>match i,hi,j,hj with|0,_,0,_=>trivial|1,_,0,_=>trivial|2,_,0,_=>trivial|3,_,0,_=>trivial|4,_,0,_=>trivial|5,_,0,_=>trivial )
 ·intro _;subst w1;exact b8 (n:=1) (es:=1) krf (by exact⟨trivial,trivial⟩) rfl rfl (fun i hi j hj=>match i,hi,j,hj with|0,_,0,_=>krf ) (fun i hi j hj=>match i,hi,j,hj with|0,_,0,_=>trivial )
 ·intro _;subst w2;exact b8 (n:=2) (es:=1) krf (by exact⟨trivial,trivial,trivial⟩) rfl rfl (fun i hi j hj=>match i,hi,j,hj with|0,_,0,_=>krf|1,_,0,_=>krf ) (fun i hi j hj=>match i,hi,j,hj with|0,_,0,_=>trivial|1,_,0,_=>trivial )
 ·intro _;subst w3;exact b8 (n:=1) (es:=1) krf (by exact⟨trivial,trivial⟩) rfl rfl (fun i hi j hj=>match i,hi,j,hj with|0,_,0,_=>krf ) (fun i hi j hj=>match i,hi,j,hj with|0,_,0,_=>trivial )
 ·intro _;subst w4;exact b8 (n:=2) (es:=1) krf (by exact⟨trivial,trivial,trivial⟩) rfl rfl (fun i hi j hj=>match i,hi,j,hj with|0,_,0,_=>krf|1,_,0,_=>krf ) (fun i hi j hj=>match i,hi,j,hj with|0,_,0,_=>trivial|1,_,0,_=>trivial )
 ·intro _;subst w1 w2 w3 w4 w7;exact b8 (n:=4) (es:=1) krf (by exact⟨trivial,trivial,trivial,trivial,trivial⟩) rfl rfl (fun i hi j hj=>match i,hi,j,hj with|0,_,0,_=>krf|1,_,0,_=>krf|2,_,0,_=>krf|3,_,0,_=>krf ) (fun i hi j hj=>match i,hi,j,hj with|0,_,0,_=>trivial|1,_,0,_=>trivial|2,_,0,_=>trivial|3,_,0,_=>trivial )
 ·intro _;subst w5;exact b8 (n:=2) (es:=1) krf (by exact⟨trivial,trivial,trivial⟩) rfl rfl (fun i hi j hj=>match i,hi,j,hj with|0,_,0,_=>krf|1,_,0,_=>krf ) (fun i hi j hj=>match i,hi,j,hj with|0,_,0,_=>trivial|1,_,0,_=>trivial )
 ·intro _;subst w6;exact b8 (n:=2) (es:=1) krf (by exact⟨trivial,trivial,trivial⟩) rfl rfl (fun i hi j hj=>match i,hi,j,hj with|0,_,0,_=>krf|1,_,0,_=>krf ) (fun i hi j hj=>match i,hi,j,hj with|0,_,0,_=>trivial|1,_,0,_=>trivial )
 ·intro _;subst w5 w6 w8;exact b8 (n:=2) (es:=1) krf (by exact⟨trivial,trivial,trivial⟩) rfl rfl (fun i hi j hj=>match i,hi,j,hj with|0,_,0,_=>krf|1,_,0,_=>krf ) (fun i hi j hj=>match i,hi,j,hj with|0,_,0,_=>trivial|1,_,0,_=>trivial )
 ·refine(av (aX _ _ rfl trivial rfl rfl rfl) (AM _))
def oS {U:Type}(x:Fz × List U):KL U:=⟨x.2,x.1⟩
theorem zN:Rea Tryd.prog 77 2 (fun _:Lit=>True) iE:=
 Rea.map (nv Tryd.underlying77 krf (iz rfl krf (jL Tryd.underlying3) (iz rfl krf (vX Tryd.underlying4) nu)))
  (fun x:Int × Bool × Unit=>⟨x.1,x.2.1⟩) (fun _ _=>trivial) (fun x j hj=>match j,hj with|0,_=>rfl|1,_=>rfl)
theorem zO:Rea Tryd.prog 73 1 (fun _:KL Lit=>True) (fun x _=>ap x):=
 Rea.map (ny Tryd.underlying73 krf omg zN) oS (fun _ _=>trivial) (fun x j hj=>rfl)
theorem zP:Rea Tryd.prog 75 2 (fun _:Rule=>True) br:=by
 have h:=nv (n:=2) Tryd.underlying75 krf (iz rfl (m:=1) krf (jL Tryd.underlying3) (iz rfl (m:=1) krf zO nu))
 exact h.map (fun x=>⟨x.1,x.2.1⟩) (fun _ _=>trivial) (fun x j hj=>match j,hj with|0,_=>rfl|1,_=>rfl)
theorem zQ:Rea Tryd.prog 22 1 (fun _:KL Rule=>True) (fun x _=>ae x):=
 Rea.map (ny Tryd.underlying22 krf omg zP) oS (fun _ _=>trivial) (fun x j hj=>rfl)
theorem zR:Rea Tryd.prog 24 2 (fun _:Prg=>True) (fun p=>nth [.int .i64 p.atoms,ae p.rules]):=by
 have h:=nv (n:=2) Tryd.underlying24 krf (iz rfl (m:=1) krf (jL Tryd.underlying3) (iz rfl (m:=1) krf zQ nu))
 exact h.map (fun x=>⟨x.1,x.2.1⟩) (fun _ _=>trivial) (fun x j hj=>match j,hj with|0,_=>rfl|1,_=>rfl)
theorem zS:Arg Tryd.prog 24 (fun _:Prg=>True) aw:=v8 Tryd.underlying24 zR
def eqZ (c:Int):Int->Bool:=fun v=>c==v
theorem zT (R:Res)(l:KL Int)(c:Int)(hp:List AObj)(g:R.σ)(hl:l.l.length<1000000):Does Tryd.prog R 89 [ah l,.int .i64 c] hp g (.ret (.int .i64 (aC (eqZ c) l.l 0))) hp g:=by
 refine bN (fun R g=>?_) (by exact⟨trivial,trivial,trivial⟩) R hp g
 refine spW (nt:=19) (rs:=[.tmp 4]) (k0:=0) ?_
 refine vcR [] (lkL [(0,[0,1]),(1,[0,1,7,8])]) (fun _=>[]) (fun (Q:AEx->St R.σ->Prop)=>WpC Tryd.prog R 19 0 89 [1,0,1,0] Q [Kont.blk 0,Kont.seq [1,1]] (St.mk [(0,ah l),(1,i6 c),(7,i6 (↑(List.length l.l):Int)),(8,i6 0)] [] g)) (?_)
 refine(bi krf (fun (i:Nat)=>⟨[(0,ah l),(1,i6 c),(7,i6 (l.l.length:Int)),(8,.int .i64 (i:Int))],[],g⟩) (fun (i:Nat)=>(i<=l.l.length/\aC (eqZ c) l.l 0=aC (eqZ c) (l.l.drop i) i)) (fun (i:Nat)=>(l.l.length-i)) 0 (aY ⟨AM _,AM _,AM _,(AN krf),trivial⟩ rfl rfl) ?_ (fun i hi=>?_))
 ·exact⟨Nat.zero_le _,rfl⟩
 ·obtain⟨h1,h2⟩:=hi
  refine vcR [] (lkL [(2,[0,1,7,8,9]),(3,[0,1,5,7,8]),(4,[0,1,5,7,8,16]),(5,[4]),(6,[0,1,7,8])]) (fun _=>[]) (fun Q=>(fun (u1:Int)=>(fun (u2:Int)=>(decide (u2<u1)=true->(0<=u2/\u2<u1)/\1<=1/\((c==List.getD l.l i 0)=true->Q AEx.ret (St.mk [(4,i6 u2)] [] g))/\((c==List.getD l.l i 0)=false->(-9223372036854775808<=u2+1/\u2+1<=9223372036854775807)/\Q AEx.normal (St.mk [(0,ah l),(1,i6 c),(7,i6 u1),(8,i6 (u2+1))] [] g)))/\(decide (u2<u1)=false->Q (AEx.exit 0) (St.mk [(0,ah l),(1,i6 c),(7,i6 u1),(8,i6 u2),(9,AV.bool (decide (u2<u1)))] [] g))) ((↑i:Int))) ((↑(List.length l.l):Int))) ⟨fun c1=>have c1:(↑i:Int)<(↑(List.length l.l):Int):=(of_decide_eq_true c1);⟨omg,omg,fun c2=>have c2:c=List.getD l.l i 0:=(beq_iff_eq.mp c2);?_,fun c2=>have c2:¬c=List.getD l.l i 0:=(beq_eq_false_iff_ne.mp c2);⟨omg,?_⟩⟩,fun c1=>have c1:¬(↑i:Int)<(↑(List.length l.l):Int):=(of_decide_eq_false c1);?_⟩
  ·have c2:eqZ c (l.l.getD i 0)=true:=beq_iff_eq.2 c2
   refine⟨_,A0 _,(av (aX _ _ rfl trivial rfl rfl rfl) (AN ?_))⟩
   show(i6 (↑i:Int))=_
   congr 1
   rw[h2,eG l.l 0 omg];unfold aC;rw[if_pos c2]
  ·have c2:eqZ c (l.l.getD i 0)=false:=beq_eq_false_iff_ne.2 c2
   refine(aW (i+1) (aY ⟨AM _,AM _,AM _,(AN krf),trivial⟩ rfl rfl) ?_ ?_)
   ·refine⟨omg,?_⟩
    rw[h2,eG l.l 0 omg];conv=>lhs;unfold aC
    rw[c2];rfl
   ·omega
  ·refine⟨_,A0 _,vcR [] (lkL [(7,[4])]) (fun _=>[]) (fun (Q:AEx->St R.σ->Prop)=>Q AEx.ret (St.mk [(4,i6 (-1))] [] g)) (?_)⟩
   refine(av (aX _ _ rfl trivial rfl rfl rfl) (AN ?_))
   show(i6 (-1))=_
   congr 1
   rw[h2,List.drop_eq_nil_of_le omg];rfl
theorem zU (R:Res)(l:KL Int)(c:Int)(hp:List AObj)(g:R.σ)(hl:l.l.length<1000000):Does Tryd.prog R 43 [ah l,.int .i64 c] hp g (.ret (.bool (l.l.any (eqZ c)))) hp g:=by
 refine bN (fun R g=>?_) (by exact⟨trivial,trivial,trivial⟩) R hp g
 refine spW (nt:=9) (rs:=[.tmp 4]) (k0:=0) ?_
 refine vcR [] (lkL [(0,[0,1]),(1,[4])]) (lkL [(1,[(2,ROrc.pcall (i6 (aC (eqZ c) l.l 0)))])]) (fun Q=>(∀(hp:List AObj) (g:R.σ),true=true/\Does Tryd.prog R 89 [ah l,i6 c] hp g (ret (i6 (aC (eqZ c) l.l 0))) hp g)/\Q AEx.ret (St.mk [(4,AV.bool (decide (aC (eqZ c) l.l 0 >= 0)))] [] g)) ⟨(fun _ _=>⟨rfl,(zT _ _ _ _ _ omg)⟩),?_⟩
 refine(av (aX _ _ rfl trivial rfl rfl rfl) (AN ?_))
 show(AV.bool (decide (aC (eqZ c) l.l 0 >= 0)))=_
 congr 1
 exact lx _ _ _
structure OrdAll (p:Prg)(n left:Nat)(L:List Nat):Prop where
 is:∀i,i<L.length->∃A,A<n/\L.getD i 0=ay p A
 cov:∀a,left.testBit a=true->∃i,i<L.length/\(L.getD i 0).testBit a=true
 sub:∀i a,i<L.length->(L.getD i 0).testBit a=true->left.testBit a=true
 ord:∀i j a b,i<j->j<L.length->(L.getD i 0).testBit a=true->(L.getD j 0).testBit b=true->¬Reach p a b
theorem oT {s j:Nat}:(j:Int)∈bo s↔j<24/\s.testBit j=true:=by
 constructor
 ·intro h
  obtain⟨b,h1,h2⟩:=List.mem_map.1 h
  have:b=j:=by omega
  rw[<-this]
  exact Tb.mem_memN.1 h1
 ·exact fun h=>List.mem_map.2 ⟨j,Tb.mem_memN.2 h,rfl⟩
structure CompOk (p:Prg)(n:Nat)(L:List Nat)(v:List Int):Prop where
 len:v.length=n
 at_:∀a,a<n->0<=v.getD a 0/\v.getD a 0<L.length
 up:∀a b,a<n->Reach p a b->b<n/\v.getD b 0<=v.getD a 0
 same:∀a b,a<n->(L.getD (v.getD a 0).toNat 0).testBit b=true->Reach p a b
def itB (D:List Bool->List Bool × Bool):Nat->List Bool->List Bool
 |0,s=>s
 |k+1,s=>if (D s).2 then itB D k (D s).1 else s
structure ItOk (D:List Bool->List Bool × Bool)(n:Nat)(T:List Bool)(x:List Bool × Bool):Prop where
 len:x.1.length=n
 go:x.2=true->∃f,iQ x.1<f/\itB D f x.1=T
 stop:x.2=false->x.1=T
def md (n s:Nat):List Bool:=(List.range n).map fun j=>s.testBit j
structure ModC (p:Prg)(most n:Nat)(r:List Int):Prop where
 nn:∀(R:Res) (s:Nat) (g:R.σ),s<2^n->stF p most r s []=[]->Does Tryd.prog R 81 [aw p,iR (md n s),ah ⟨r,.may⟩,.int .i64 most,.fz .nil 0 0 (fun _ _=>.any)] [] g (.ret (.fz .nil 0 0 (fun _ _=>.any))) [] g
 nw:∀(R:Res) (s m:Nat) (L:List Nat) (g:R.σ),s<2^n->stF p most r s []=L->L≠[]->m=L.length->Does Tryd.prog R 81 [aw p,iR (md n s),ah ⟨r,.may⟩,.int .i64 most,.fz .nil 0 0 (fun _ _=>.any)] [] g (.ret (.ow true 0 m 1)) [cO (m*1) (aM L)] g
 on:∀(R:Res) (s m:Nat) (L:List Nat) (g:R.σ),s<2^n->L≠[]->m=L.length->m<=most->stF p most r s L=L->Does Tryd.prog R 81 [aw p,iR (md n s),ah ⟨r,.may⟩,.int .i64 most,.ow true 0 m 1] [cO (m*1) (aM L)] g (.ret (.ow true 0 m 1)) [cO (m*1) (aM L)] g
 ow:∀(R:Res) (s m m':Nat) (L L':List Nat) (g:R.σ),s<2^n->L≠[]->m=L.length->m<=most->stF p most r s L=L'->m'=L'.length->m≠m'->Does Tryd.prog R 81 [aw p,iR (md n s),ah ⟨r,.may⟩,.int .i64 most,.ow true 0 m 1] [cO (m*1) (aM L)] g (.ret (.ow true 1 m' 1)) [.dead,cO (m'*1) (aM L')] g
def oU (b:Nat->Bool)(i:Nat):Nat->AV:=fun j=>.bool (decide (j<i)&&b j)
theorem rq {k:Nat}(b:Nat->Bool)(i j:Nat):Below k (oU b i j):=trivial
theorem rB {f:Nat->Nat}(h:True){b:Nat->Bool}{i j:Nat}:aI f (oU b i j)=oU b i j:=rfl
structure Set2 (p:Prg)(v:Nat->Int):Prop where
 dom:∀a,v a=1∨v a=2∨v a=3
 rng:∀a,v a≠3->a<p.atoms.toNat
 yes:∃(rk:Nat->Nat) (N:Nat),∀a,v a=2->rk a<N/\∃r,r∈p.rules.l/\r.head.toNat=a/\cb v r=true/\∀l,l∈r.body.l->l.neg=false->rk l.atom.toNat<rk a
 no:∀a,v a=1->∀r,r∈p.rules.l->r.head.toNat=a->∃l,l∈r.body.l/\bc v l=1
theorem km {v w:Nat->Int}{l:Lit}(hk:∀a,v a≠3->w a=v a)(h:bc v l≠3):bc w l=bc v l:=by
 have h3:v l.atom.toNat≠3:=fun e=>h (by unfold bc;rw[e];simp)
 unfold bc
 rw[hk _ h3]
theorem gp {v:Nat->Int}{r:Rule}:cb v r=true↔∀l,l∈r.body.l->bc v l=2:=by
 unfold cb
 rw[Bool.not_eq_true',List.any_eq_false]
 constructor
 ·intro h l hl
  have:=h l hl
  simpa using this
 ·intro h l hl
  simp[h l hl]
theorem me {v w:Nat->Int}{r:Rule}(hk:∀a,v a≠3->w a=v a)(h:cb v r=true):cb w r=true:=
 gp.2 (fun l hl=>by
  have:=gp.1 h l hl
  rw[km hk (by rw[this];decide),this])
theorem oV {v:Nat->Int}{l:Lit}(hd:∀a,v a=1∨v a=2∨v a=3):bc v l=2↔(if l.neg then v l.atom.toNat=1 else v l.atom.toNat=2):=by
 unfold bc
 rcases hd l.atom.toNat with h|h|h <;> rw[h] <;> cases l.neg <;> simp
theorem zV {v:Nat->Int}{l:Lit}(hd:∀a,v a=1∨v a=2∨v a=3):bc v l=1↔(if l.neg then v l.atom.toNat=2 else v l.atom.toNat=1):=by
 unfold bc
 rcases hd l.atom.toNat with h|h|h <;> rw[h] <;> cases l.neg <;> simp
theorem zW (p:Prg):Set2 p (fun _=>3):=
 ⟨fun _=>.inr (.inr rfl),fun _ h=>absurd rfl h,⟨fun _=>0,0,fun _ h=>absurd h dcd⟩,fun _ h=>absurd h dcd⟩
theorem zX {p:Prg}{v:Nat->Int}(hp:bA p)(hr:∀r,r∈p.rules.l->aE r)(hh:cl p)(h:Set2 p v)(hb:aS p v=true):Set2 p (ba v (aj p v))/\∀a,v a≠3->ba v (aj p v) a=v a:=by
 by_cases hf:0<=a9 p v
 ·have hit:=gk (cX v) default p.rules.l 0 hf
  obtain⟨k,hk,he,hq,_⟩:=hit
  have he:a9 p v=(k:Nat):=by rw[show a9 p v=aC (cX v) p.rules.l 0 from rfl,he,Nat.zero_add]
  have hn:aj p v=⟨a9 p v,[(p.rules.l.getD (a9 p v).toNat default).head]⟩:=if_pos hf
  obtain⟨r,hrr⟩:∃r,p.rules.l.getD k default=r:=⟨_,rfl⟩
  have hrm:r∈p.rules.l:=by rw[<-hrr];exact e8 hk
  rw[hrr] at hq
  have ha:ba v (aj p v)=ck v r.head.toNat 2:=by
   rw[hn,he]
   show(if ((k:Nat):Int) = -1 then _ else ck v (p.rules.l.getD (Int.toNat ((k:Nat):Int)) default).head.toNat 2)=_
   rw[if_neg omg,Int.toNat_natCast,hrr]
  rw[ha]
  unfold cX at hq
  rw[Bool.and_eq_true,beq_iff_eq] at hq
  have hkeep:∀a,v a≠3->ck v r.head.toNat 2 a=v a:=fun a h3=>if_neg (fun e=>h3 (by rw[e];exact hq.1))
  have hself:ck v r.head.toNat 2 r.head.toNat=2:=if_pos rfl
  refine⟨⟨fun a=>?_,fun a h3=>?_,?_,fun a h1=>?_⟩,hkeep⟩
  ·unfold ck
   split
   ·exact .inr (.inl rfl)
   ·exact h.dom a
  ·by_cases e:a=r.head.toNat
   ·subst e
    have:=hh r hrm
    have:=(hr r hrm).2
    omega
   ·exact h.rng a (fun e3=>h3 (by unfold ck;rw[if_neg e];exact e3))
  ·obtain⟨rk,N,hrk⟩:=h.yes
   have hbody:=me hkeep hq.2
   refine⟨fun a=>if a=r.head.toNat then N else rk a,N+1,fun a h2=>?_⟩
   dsimp only
   by_cases e:a=r.head.toNat
   ·subst e
    rw[if_pos rfl]
    refine⟨Nat.lt_succ_self _,r,hrm,rfl,hbody,fun l hl hneg=>?_⟩
    have h2':=(oV h.dom).1 (gp.1 hq.2 l hl)
    rw[hneg] at h2'
    have h2':v l.atom.toNat=2:=h2'
    rw[if_neg (fun e=>by rw[e,hq.1] at h2';cases h2')]
    exact(hrk _ h2').1
   ·have h2:v a=2:=by
     unfold ck at h2
     rw[if_neg e] at h2
     exact h2
    obtain⟨b1,q,b2,b3,b4,b5⟩:=hrk a h2
    rw[if_neg e]
    refine⟨omg,q,b2,b3,me hkeep b4,fun l hl hneg=>?_⟩
    have h2':=(oV h.dom).1 (gp.1 b4 l hl)
    rw[hneg] at h2'
    have h2':v l.atom.toNat=2:=h2'
    rw[if_neg (fun e=>by rw[e,hq.1] at h2';cases h2')]
    exact b5 l hl hneg
  ·intro q hqm hqa
   by_cases e:a=r.head.toNat
   ·rw[e,hself] at h1
    cases h1
   ·have h1:v a=1:=by
     unfold ck at h1
     rw[if_neg e] at h1
     exact h1
    obtain⟨l,hl,h1l⟩:=h.no a h1 q hqm hqa
    exact⟨l,hl,by rw[km hkeep (by rw[h1l];decide),h1l]⟩
 ·obtain⟨e1,_,_,e4,e5⟩:=iN hp hf hb
  obtain⟨_,g2,g3⟩:=gj v hp
  have hgu:=zp (f:=v) hp hr
  rw[e1] at e4
  have e4:ba v (aj p v)=bI v (gre p v):=by rw[e1,e4];show bI v (aH (bo (gre p v)))=_;rw[iM g3]
  rw[e4]
  have hopen:∀a,(gre p v).testBit a=true->a<p.atoms.toNat/\v a=3:=fun a ha=>by
   have:=g2 a ha
   rw[gi,Bool.and_eq_true,decide_eq_true_eq,decide_eq_true_eq] at this
   exact this
  have hkeep:∀a,v a≠3->bI v (gre p v) a=v a:=fun a h3=>if_neg (fun hb=>h3 (hopen a hb).2)
  refine⟨⟨fun a=>?_,fun a h3=>?_,?_,fun a h1=>?_⟩,hkeep⟩
  ·unfold bI
   split
   ·exact .inl rfl
   ·exact h.dom a
  ·by_cases e:(gre p v).testBit a=true
   ·exact(hopen a e).1
   ·exact h.rng a (fun e3=>h3 (by unfold bI;rw[if_neg e];exact e3))
  ·obtain⟨rk,N,hrk⟩:=h.yes
   refine⟨rk,N,fun a h2=>?_⟩
   have h2:v a=2:=by
    unfold bI at h2
    split at h2
    ·cases h2
    ·exact h2
   obtain⟨b1,q,b2,b3,b4,b5⟩:=hrk a h2
   exact⟨b1,q,b2,b3,me hkeep b4,b5⟩
  ·intro q hqm hqa
   by_cases e:(gre p v).testBit a=true
   ·have:=hgu q hqm (by rw[hqa];exact e)
    rw[List.any_eq_true] at this
    obtain⟨l,hl,hbl⟩:=this
    refine⟨l,hl,?_⟩
    unfold blk at hbl
    rw[Bool.or_eq_true,beq_iff_eq,Bool.and_eq_true] at hbl
    rcases hbl with h1l|⟨hn,hm⟩
    ·rw[km hkeep (by rw[h1l];decide),h1l]
    ·unfold bc bI
     rw[if_pos (by rw[hn];rfl),if_pos hm]
   ·have h1:v a=1:=by
     unfold bI at h1
     rw[if_neg e] at h1
     exact h1
    obtain⟨l,hl,h1l⟩:=h.no a h1 q hqm hqa
    exact⟨l,hl,by rw[km hkeep (by rw[h1l];decide),h1l]⟩
theorem ta {p:Prg}(hp:bA p)(hr:∀r,r∈p.rules.l->aE r)(hh:cl p):∀(k:Nat) (v:Nat->Int) (l:List Stp),Set2 p v->cq p v<k->Set2 p (cI p k v l).2/\aS p (cI p k v l).2=false
 |0,_,_,_,h=>absurd h (Nat.not_lt_zero _)
 |k+1,v,l,h,hk=>by
  show Set2 p (if aS p v then cI p k (ba v (aj p v)) (l++[aj p v]) else(l,v)).2/\aS p (if aS p v then cI p k (ba v (aj p v)) (l++[aj p v]) else(l,v)).2=false
  by_cases hb:aS p v=true
  ·rw[if_pos hb]
   exact ta hp hr hh k _ _ (zX hp hr hh h hb).1 (by have:=lV hp hr hh hb;omega)
  ·rw[if_neg hb]
   exact⟨h,by simpa using hb⟩
structure Fin2 (p:Prg)(v:Nat->Int):Prop extends Set2 p v where
 fire:∀r,r∈p.rules.l->cb v r=true->v r.head.toNat=2
 unf:∀m:Nat->Bool,kg p v m->(∀j,m j=true->j<p.atoms.toNat/\v j=3)->∀j,m j=false
theorem oW {p:Prg}(hp:bA p)(hr:∀r,r∈p.rules.l->aE r)(hh:cl p):Fin2 p (am p).2:=by
 have hd:Set2 p (am p).2/\aS p (am p).2=false:=ta hp hr hh 25 (fun _=>3) [] (zW p) (by have:=j5 p (fun _=>3);have:=hp.2;omega)
 obtain⟨h,hb⟩:=hd
 obtain⟨h1,h2⟩:=ym hb
 have hm:=(lT (cX (am p).2) p.rules.l 0 h1).2
 refine⟨h,fun r hrm hbd=>?_,fun m hu ho j=>?_⟩
 ·have hf:=hm r hrm
  unfold cX at hf
  rw[hbd,Bool.and_true,beq_eq_false_iff_ne] at hf
  rcases h.dom r.head.toNat with e|e|e
  ·obtain⟨l,hl,h1l⟩:=h.no _ e r hrm rfl
   have:=gp.1 hbd l hl
   rw[h1l] at this
   cases this
  ·exact e
  ·exact absurd e hf
 ·cases hmj:m j with
  |false=>rfl
  |true=>
   have:=zo hp (fun r hrm=>(hr r hrm).2.1) hu ho hmj
   rw[show gre p (am p).2=0 from h2] at this
   simp at this
section
variable {R:Res}
theorem zY [Tab LT R]{nt k0 f0:Nat}{b:Code}{p:List Nat}{Q:AEx->St R.σ->Prop}{s:St R.σ}(t:Nat)(psl:List Nat)(m:Nat)(hrl:ix t psl (sub b p)=true){fa fb:Nat->AV}(hf:lk s.fr t=.fn 105 0 fa 1 fb)(hfb:fb 0=.ref m 0)
  (S K:Nat) (hS:S<2^24) (H:List AObj) (h0:To R k0 s ⟨s.fr,H++[cO 1 (fun _=>.int .u64 S)],s.g⟩) (hl:H.length=m)
  (hlive:dE (H++[cO 1 (fun _=>.int .u64 S)])) (hBO:e7 m H) (hlen:1=psl.length) (hlt:bF psl nt=true) (ts:List Nat) (hBf:f6 ts (fun t=>Below m (lk s.fr t)))
  (hround:∀k l,k<K->k<(ak S).length->Wp Tryd.prog R nt m (.inr l) b (p++[0]) (nE Tryd.prog R nt m l b (p++[1]) none H s.g) ⟨cP psl [.int .i64 (((ak S).getD k 0:Nat):Int)] (dP ts s.fr),H,s.g⟩)
  (hKl:K<(ak S).length) (hlast:∀l,Wp Tryd.prog R nt (m+1) (.inr l) b (p++[0]) (sY Tryd.prog R nt l b (p++[1]) ((Tryd.prog.funcs[f0]?).isSome=true) (fun e s3=>Q e ⟨s.fr,s3.hp,s3.g⟩)) ⟨cP psl [.int .i64 (((ak S).getD K 0:Nat):Int)] s.fr,H++[.dead],s.g⟩) :
  WpB Tryd.prog R nt k0 f0 b p Q s:=by
 obtain⟨ps,assign,body,hc,rfl⟩:∃ps assign body,sub b p=.rangeFunc (.tmp t) ps assign body/\ps.toList=psl:=by
  unfold ix at hrl
  split at hrl
  ·rename_i u ps assign body hs
   simp only[Bool.and_eq_true] at hrl
   have:=Nat.eq_of_beq_eq_true hrl.1
   subst this
   exact⟨ps,assign,body,hs,jF hrl.2⟩
  ·cases hrl
 have e0:sub b (p++[0])=assign:=by rw[co,hc];exact cS assign
 have e1:sub b (p++[1])=body:=by rw[co,hc];exact cS body
 refine wL h0 ⟨fun C hC n a w hH=>?_⟩
 rw[hc]
 refine wG rfl (sX (s:=⟨s.fr,H++[cO 1 (fun _=>.int .u64 S)],s.g⟩) (K:=K) hf hfb hS rfl hl hlive hBO hlen hlt ts hBf (fun k hk hkN l=>?_) (fun _ l=>?_) (fun h=>absurd hKl omg) hC hH)
 ·have h1:=(hround k l hk hkN).h
  rw[e0] at h1
  rw[show(St.hp ⟨cP ps.toList [.int .i64 (((ak S).getD k 0:Nat):Int)] (dP ts s.fr),H,s.g⟩).length=m from hl]
  refine ii h1 (fun e s' hq=>?_)
  cases e with
  |normal=>
   have h2:=(show Wp _ _ _ _ _ _ _ _ _ from hq).h
   rw[e1] at h2
   exact⟨rfl,h2⟩
  |exit id=>exact hq.elim
  |ret=>exact hq.elim
  |pan v=>exact hq.elim
 ·have h1:=(hlast l).h
  rw[e0] at h1
  refine ii h1 (fun e s' hq=>?_)
  cases e with
  |normal=>
   have h2:=(show Wp _ _ _ _ _ _ _ _ _ from hq).h
   rw[e1] at h2
   exact⟨rfl,h2⟩
  |exit id=>exact hq.elim
  |ret=>exact hq.elim
  |pan v=>exact hq.elim
end
theorem zZ (R:Res)[Tab LT R](p:Prg)(v:Nat->Int)(es:List (Value × AV))(s:Step)(hl:p.rules.l.length<1000000)(hr:∀r,r∈p.rules.l->aE r)(hes:HeadsOk es p.rules.l)(hp:1<=p.atoms/\p.atoms<=24)(hsl:s.atoms.l.length<1000000)(hc:cV p v s.atoms.l=true)(hn:dg p v (aH s.atoms.l)=false)(g:R.σ):Does Tryd.prog R 139 [bm s,.ref 0 0] [cO 27 (ad p v (.mp 1)),.map es] g (.pan (.ifc 145 (.agg 0 (nth [])))) [cO 27 (ad p v (.mp 1)),.map es] g:=by
 unfold cV at hc
 rw[Bool.and_eq_true,decide_eq_true_eq,List.all_eq_true] at hc
 have h0:(s.atoms.l.length:Int) > 0:=by omega
 have hck:∀j,j<s.atoms.l.length->eI p v s.atoms.l j=true:=fun j hj=>hc.2 j (List.mem_range.2 hj)
 refine wN (nt:=79) (k0:=2) krf krf rfl ?_
 refine jS krf ?_
 refine vcR [] (lkL [(0,[2,3])]) (fun _=>[]) (fun (Q:AEx->St R.σ->Prop)=>Q AEx.normal (St.mk [(2,ref 2 0),(3,ref 3 0)] [cO 27 (ad p v (AV.mp 1)),AObj.map es,cO 2 (nth [i6 s.rule,ah s.atoms]),cO 1 fun (a:Nat)=>ref 0 0] g)) (?_)
 show WpB _ _ _ _ _ _ _ _ _
 refine jS krf ?_
 refine vcR [] (lkL [(1,[2,3])]) (lkL [(1,[(5,ROrc.pcall (tup 0 (nth [])))])]) (fun Q=>2<=2/\(∀(hp:List AObj) (g:R.σ),true=true/\Does Tryd.prog R 140 [AV.bool (decide ((↑(List.length s.atoms.l):Int) > 0))] hp g (ret (tup 0 (nth []))) hp g)/\Q AEx.normal (St.mk [(2,ref 2 0),(3,ref 3 0)] [cO 27 (ad p v (AV.mp 1)),AObj.map es,cO 2 (nth [i6 s.rule,ah s.atoms]),cO 1 fun a=>ref 0 0] g)) ⟨omg,(fun _ _=>⟨rfl,(dQ _ _ (by simp at * <;> omega) _ _)⟩),?_⟩
 show WpB _ _ _ _ _ _ _ _ _
 refine jS krf ?_
 refine vcR [] (lkL [(2,[2,3,4])]) (fun _=>[]) (fun (Q:AEx->St R.σ->Prop)=>Q AEx.normal (St.mk [(2,ref 2 0),(3,ref 3 0),(4,ref 4 0)] [cO 27 (ad p v (AV.mp 1)),AObj.map es,cO 2 (nth [i6 s.rule,ah s.atoms]),cO 1 fun (a:Nat)=>ref 0 0,cO 1 fun (a:Nat)=>int u64 0] g)) (?_)
 show WpB _ _ _ _ _ _ _ _ _
 refine jS krf ?_
 refine vcR [] (lkL [(3,[2,3,4,17,18,19])]) (fun _=>[]) (fun Q=>2<=2/\WpC Tryd.prog R 79 2 139 [1,1,1,0,1,0] Q [Kont.blk 0] (St.mk [(2,ref 2 0),(3,ref 3 0),(4,ref 4 0),(17,ah s.atoms),(18,i6 (↑(List.length s.atoms.l):Int)),(19,i6 0)] [cO 27 (ad p v (AV.mp 1)),AObj.map es,cO 2 (nth [i6 s.rule,ah s.atoms]),cO 1 fun a=>ref 0 0,cO 1 fun a=>int u64 0] g)) ⟨omg,?_⟩
 refine(bi krf (fun (i:Nat)=>⟨[(2,ref 2 0),(3,ref 3 0),(4,ref 4 0),(17,ah s.atoms),(18,i6 (s.atoms.l.length:Int)),(19,.int .i64 i)],[cO 27 (ad p v (.mp 1)),.map es,cO 2 (nth [.int .i64 s.rule,ah s.atoms]),cO 1 (fun _=>.ref 0 0),cO 1 (fun _=>.int .u64 (aH (s.atoms.l.take i)))],g⟩) (fun (i:Nat)=>(i<=s.atoms.l.length/\aH (s.atoms.l.take i)<2^24)) (fun (i:Nat)=>(s.atoms.l.length-i)) 0 (toL (h1:=⟨AM _,AM _,AM _,AM _,AM _,(AN krf),trivial⟩)) ?_ (fun i hi=>?_))
 ·exact⟨Nat.zero_le _,(by decide:(0:Nat)<2^24)⟩
 ·obtain⟨h1,h2⟩:=hi
  rcases Nat.lt_or_ge i s.atoms.l.length with hlt|hge
  ·have hx:=nY hlt
   have hm:=hck i hlt
   have hm':(bif et p s.atoms.l i then v (s.atoms.l.getD i 0).toNat==3 else false)=true:=hm
   have hA:=jZ (lI hm)
   refine vcR [] (lkL [(4,[2,3,4,17,18,19,20]),(5,[2,3,4,5,6,17,18,19]),(6,[2,3,4,6,17,18,19]),(7,[2,3,4,17,18,19]),(8,[2,3,4,17,18,19])]) (lkL [(6,[(7,ROrc.pcall (AV.bool (decide (0<=List.getD s.atoms.l i 0/\List.getD s.atoms.l i 0<=p.atoms-1)))),(29,ROrc.kop (i6 (v (Int.toNat (List.getD s.atoms.l i 0))))),(32,ROrc.pcall (tup 0 (nth [])))]),(7,[(2,ROrc.pcall (int u64 (↑(2^Int.toNat (List.getD s.atoms.l i 0)):Int))),(4,ROrc.val (Orc.obj (nth [int u64 (IntKind.wrap u64 (↑(BitVec.toNat (BitVec.ofInt 64 (↑(aH (List.take i s.atoms.l)):Int)|||BitVec.ofInt 64 (↑(2^Int.toNat (List.getD s.atoms.l i 0)):Int))):Int))])))])]) (fun Q=>(fun (u1:Int)=>(fun (u2:Int)=>(fun (u3:Bool)=>(fun (u4:List AObj)=>(fun (u5:AV)=>(fun (u6:Int)=>(fun (u7:Int)=>(fun (u8:Bool)=>(fun (u9:Option (List Nat))=>(fun (u10:Option (Nat × Bool))=>(decide (u7<u6)=true->(0<=u7/\u7<u6)/\1<=1/\1<=1/\1<=27/\(-9223372036854775808<=p.atoms-1/\p.atoms-1<=9223372036854775807)/\(∀(hp:List AObj) (g:R.σ),true=true/\Does Tryd.prog R 58 [i6 u1,i6 0,i6 (p.atoms-1)] hp g (ret (AV.bool u8)) hp g)/\((u8 && !u7==0)=true->2<=2)/\((u8 && !u7==0)=true -> -9223372036854775808<=u7-1/\u7-1<=9223372036854775807)/\((u8 && !u7==0)=true->0<=u7-1/\u7-1<u6)/\((u8 && !u7==0)=true->1<=1)/\(u3=true->1<=1)/\(u3=true->0<=u1/\u1<(↑24:Int))/\(u3=true->OpOk Tryd.prog R (Oper.mk (some 53) (Op.load 43 (Operand.tmp 52)) 43 "table.go:155" #[Edge.mk 28 Ground.data,Edge.mk 23 Ground.guard] (some (23,true))) (evO [Row.mk (some 52) (some (23,true)) (ref 0 (Int.toNat u1+2)) false u9 [],Row.mk (some 51) (some (23,true)) (ref 0 2) false u9 [],Row.mk (some 50) (some (23,true)) (ref 0 0) false u9 [],Row.mk (some 49) (some (23,true)) (i6 u1) false u9 [],Row.mk (some 48) (some (23,true)) (ref 0 0) false u9 [3],Row.mk (some 47) none (AV.bool u3) false u9 [],Row.mk (some 46) none (AV.bool u3) false u9 [],Row.mk (some 45) (some (8,true)) (AV.bool (bif u7==0 then true else decide (u1 > u2))) false u9 [],Row.mk (some 44) u10 (AV.bool (decide (u1 > u2))) false u9 [],Row.mk (some 43) u10 (i6 u2) false u9 [],Row.mk (some 42) u10 (fp 1 fun x=>i6 u2) false u9 [],Row.mk (some 41) u10 (i6 (u7-1)) false u9 [],Row.mk (some 40) u10 (i6 u7) false u9 [],Row.mk (some 39) u10 (ah s.atoms) false u9 [2],Row.mk (some 38) u10 (ref 2 1) false u9 [],Row.mk (some 37) u10 (ref 2 0) false u9 [],Row.mk (some 36) u10 (i6 u1) false u9 [],Row.mk (some 35) (some (8,true)) (AV.bool (u7==0)) false u9 [],Row.mk (some 34) (some (8,true)) (AV.bool (u7==0)) false u9 [],Row.mk (some 33) (some (8,true)) (i6 u7) false u9 [],Row.mk (some 32) none (AV.bool u8) false u9 [],Row.mk (some 31) none (AV.bool u8) false u9 [],Row.mk (some 30) none (i6 (p.atoms-1)) false u9 [],Row.mk (some 29) none (i6 p.atoms) false u9 [0],Row.mk (some 28) none (ref 0 0) false u9 [],Row.mk (some 27) none (ref 0 0) false u9 [],Row.mk (some 26) none (ref 0 0) false u9 [],Row.mk (some 25) none (ref 0 0) false u9 [3],Row.mk (some 24) none (i6 u1) false u9 []] [(2,ref 2 0),(3,ref 3 0),(4,ref 4 0),(5,i6 u7),(6,i6 u1),(17,ah s.atoms),(18,i6 u6),(19,i6 u7)] [(23,true)]) u4 g (i6 (v (Int.toNat u1))) u4 g)/\(∀(hp:List AObj) (g:R.σ),true=true/\Does Tryd.prog R 140 [AV.bool (bif u3 then v (Int.toNat u1)==3 else false)] hp g (ret (tup 0 (nth []))) hp g)/\Flw Tryd.prog/\1<=1/\(∀(hp:List AObj) (g:R.σ),true=true/\Does Tryd.prog R 79 [i6 u1] hp g (ret (int u64 (↑(2^Int.toNat u1):Int))) hp g)/\1<=1/\(∀(c:Nat),c<1->nth [u5] c=ao (fun (x:Nat)=>int u64 (↑(aH (List.take i s.atoms.l)):Int)) 0 1 (fun (x:Nat)=>u5) c)/\(-9223372036854775808<=u7+1/\u7+1<=9223372036854775807)/\Q AEx.normal (St.mk [(2,ref 2 0),(3,ref 3 0),(4,ref 4 0),(17,ah s.atoms),(18,i6 u6),(19,i6 (u7+1))] [cO 27 (ad p v (AV.mp 1)),AObj.map es,cO 2 (nth [i6 s.rule,ah s.atoms]),cO 1 fun x=>ref 0 0,cO 1 (nth [u5])] g))/\(decide (u7<u6)=false->Q (AEx.exit 0) (St.mk [(2,ref 2 0),(3,ref 3 0),(4,ref 4 0),(17,ah s.atoms),(18,i6 u6),(19,i6 u7),(20,AV.bool (decide (u7<u6)))] u4 g))) (some (11,false))) (some [])) (decide (0<=u1/\u1<=p.atoms-1))) ((↑i:Int))) ((↑(List.length s.atoms.l):Int))) (int u64 (IntKind.wrap u64 (↑(BitVec.toNat (BitVec.ofInt 64 (↑(aH (List.take i s.atoms.l)):Int)|||BitVec.ofInt 64 (↑(2^Int.toNat u1):Int))):Int)))) ([cO 27 (ad p v (AV.mp 1)),AObj.map es,cO 2 (nth [i6 s.rule,ah s.atoms]),cO 1 fun x=>ref 0 0,cO 1 fun x=>int u64 (↑(aH (List.take i s.atoms.l)):Int)])) (bif decide (0<=u1/\u1<=p.atoms-1) then bif (↑i:Int)==0 then true else decide (u1 > u2) else false)) (List.getD s.atoms.l (Int.toNat ((↑i:Int)-1)) 0)) (List.getD s.atoms.l i 0)) ⟨fun c1=>have c1:(↑i:Int)<(↑(List.length s.atoms.l):Int):=(of_decide_eq_true c1);⟨omg,omg,omg,omg,omg,(fun _ _=>⟨rfl,(dv _ _ _ _ _ _)⟩),omg,omg,(by intro h;simp at h <;> omega),omg,omg,omg,?_,(fun _ _=>⟨rfl,(dQ _ _ (by assumption) _ _)⟩),krf,omg,(fun _ _=>⟨rfl,(d6 _ _ omg _ _)⟩),omg,(fun c hc=>match c,hc with|0,_=>krf ),omg,?_⟩,fun c1=>have c1:¬(↑i:Int)<(↑(List.length s.atoms.l):Int):=(of_decide_eq_false c1);?_⟩
   ·intro _
    exact dY rfl rfl krf rfl (by show _+1<=27;omega) (d5 omg omg)
   ·refine(aW (i+1) (toL (h1:=⟨AM _,AM _,AM _,AM _,AM _,(AN krf),trivial⟩) (h2:=⟨AO,rfl,AO,AO,⟨rfl,Nat.le_refl _,fun j hj=>match j,hj with|0,_=>(AN ?_) ⟩,trivial⟩)) ?_ ?_)
    ·show AV.int .u64 _=AV.int .u64 _
     congr 1
     rw[hx]
     exact Tb.u64_or (bG h2) (bG (Nat.pow_lt_pow_right dcd omg))
    ·refine⟨omg,?_⟩
     rw[hx]
     exact Nat.or_lt_two_pow h2 (Nat.pow_lt_pow_right dcd omg)
    ·omega
   all_goals (exfalso;omega)
  ·have hi':i=s.atoms.l.length:=by omega
   subst hi'
   rw[List.take_length] at h2 ⊢
   obtain⟨S,hS⟩:∃S,aH s.atoms.l=S:=⟨_,rfl⟩
   rw[hS] at h2 hn ⊢
   have hb:decide ((s.atoms.l.length:Int)<(s.atoms.l.length:Int))=false:=decide_eq_false omg
   refine vcR [[1,1,1,0,1,0,0,1,0,0]] (lkL [(4,[2,3,4,17,18,19,20])]) (fun _=>[]) (fun Q=>(fun (u1:Int)=>(fun (u2:St R.σ)=>(decide (u1<u1)=true->WpC Tryd.prog R 79 2 139 [1,1,1,0,1,0,0,1,0,0] Q [Kont.seq [1,1,1,0,1,0,0,1,1]] u2)/\(decide (u1<u1)=false->Q (AEx.exit 0) u2)) (St.mk [(2,ref 2 0),(3,ref 3 0),(4,ref 4 0),(17,ah s.atoms),(18,i6 u1),(19,i6 u1),(20,AV.bool (decide (u1<u1)))] [cO 27 (ad p v (AV.mp 1)),AObj.map es,cO 2 (nth [i6 s.rule,ah s.atoms]),cO 1 fun x=>ref 0 0,cO 1 fun x=>int u64 (↑S:Int)] g)) ((↑(List.length s.atoms.l):Int))) ⟨fun hcc=>(nomatch (hb.symm.trans hcc)),fun _=>?_⟩
   refine⟨⟨[(2,.ref 2 0),(3,.ref 3 0),(4,.ref 4 0)],[cO 27 (ad p v (.mp 1)),.map es,cO 2 (nth [.int .i64 s.rule,ah s.atoms]),cO 1 (fun _=>.ref 0 0),cO 1 (fun _=>.int .u64 S)],g⟩,aY (by exact⟨AM _,AM _,AM _,trivial⟩) rfl rfl,?_⟩
   show WpB _ _ _ _ _ _ _ _ _
   refine wK krf ?_
   refine jS krf ?_
   refine vcR [] (lkL [(9,[3,4,63])]) (lkL [(9,[(1,ROrc.call (fn 105 0 (nth []) 1 (nth [ref (List.length [cO 27 (ad p v (AV.mp 1)),AObj.map es,cO 2 (nth [i6 s.rule,ah s.atoms]),cO 1 fun (x:Nat)=>ref 0 0,cO 1 fun (x:Nat)=>int u64 (↑S:Int)]) 0])) ([cO 27 (ad p v (AV.mp 1)),AObj.map es,cO 2 (nth [i6 s.rule,ah s.atoms]),cO 1 fun (x:Nat)=>ref 0 0,cO 1 fun (x:Nat)=>int u64 (↑S:Int)]++[cO 1 fun (x:Nat)=>int u64 (↑S:Int)]) g)])]) (fun Q=>(fun (u1:List AObj)=>1<=1/\(true=true/\Does Tryd.prog R 77 [int u64 (↑S:Int)] [cO 27 (ad p v (AV.mp 1)),AObj.map es,cO 2 (nth [i6 s.rule,ah s.atoms]),cO 1 fun x=>ref 0 0,cO 1 fun x=>int u64 (↑S:Int)] g (ret (fn 105 0 (nth []) 1 (nth [ref 5 0]))) u1 g)/\Q AEx.normal (St.mk [(3,ref 3 0),(4,ref 4 0),(63,fn 105 0 (nth []) 1 (nth [ref 5 0]))] u1 g)) ([cO 27 (ad p v (AV.mp 1)),AObj.map es,cO 2 (nth [i6 s.rule,ah s.atoms]),cO 1 fun x=>ref 0 0,cO 1 fun x=>int u64 (↑S:Int),cO 1 fun x=>int u64 (↑S:Int)])) ⟨omg,⟨rfl,(cQ _ _ _ _)⟩,?_⟩
   show WpB _ _ _ _ _ _ _ _ _
   obtain⟨K,hK,hKs,hlo⟩:∃K,K<(ak S).length/\(ofH p.rules.l (((ak S).getD K 0:Nat):Int)).any (a8 v S)=true/\∀j,j<K->(ofH p.rules.l (((ak S).getD j 0:Nat):Int)).any (a8 v S)=false:=by
    have h:=gk (fun (a:Nat)=>(ofH p.rules.l a).any (a8 v S)) 0 (ak S) 0 (by
     by_cases h:0<=aC (fun (a:Nat)=>(ofH p.rules.l a).any (a8 v S)) (ak S) 0
     ·exact h
     ·have hm:=(lT _ _ _ h).2
      unfold dg at hn
      rw[Bool.not_eq_false',List.any_eq_true] at hn
      obtain⟨x,hx,hx2⟩:=hn
      rw[hm x hx] at hx2
      cases hx2)
    obtain⟨K,h1,_,h3,h4⟩:=h
    exact⟨K,h1,h3,h4⟩
   have hin:∀k,k<(ak S).length->(ak S).getD k 0<24:=fun k hk=>iJ (bx (ak S) 0 hk)
   obtain⟨l,hle⟩:∃l,(fun k=>(ak S).getD k 0)=l:=⟨_,rfl⟩
   refine wJ krf ?_
   refine zY 63 [64] 5 krf rfl rfl S K h2 [cO 27 (ad p v (.mp 1)),.map es,cO 2 (nth [.int .i64 s.rule,ah s.atoms]),cO 1 (fun _=>.ref 0 0),cO 1 (fun _=>.int .u64 S)] (fC rfl rfl) rfl (by exact⟨omg,omg,omg,omg,omg,trivial⟩) (by exact⟨fun j _=>aZ _ _ 3 _,trivial,fun j hj=>(match j with|0=>trivial|1=>trivial|_+2=>trivial),fun _ _=>show 0<5 by omega,fun _ _=>trivial,trivial⟩) rfl krf [3,4] (by exact⟨show 3<5 by omega,show 4<5 by omega,trivial⟩) (fun k l' hk hkN=>?_) hK (fun l'=>?_)
   ·refine vcR [] (lkL [(10,[3,4,7])]) (fun _=>[]) (fun (Q:AEx->St R.σ->Prop)=>Q AEx.normal (St.mk [(3,ref 3 0),(4,ref 4 0),(7,i6 (↑(List.getD (ak S) k 0):Int))] [cO 27 (ad p v (AV.mp 1)),AObj.map es,cO 2 (nth [i6 s.rule,ah s.atoms]),cO 1 fun (x:Nat)=>ref 0 0,cO 1 fun (x:Nat)=>int u64 (↑S:Int)] g)) (?_)
    show Wp _ _ _ 5 _ _ _ _ _
    obtain⟨a,ha⟩:∃a,(ak S).getD k 0=a:=⟨_,rfl⟩
    have ha24:a<24:=by rw[<-ha];exact hin k hkN
    have hm:(!(ofH p.rules.l a).any (a8 v S))=true:=by rw[<-ha,hlo k hk];rfl
    rw[ha]
    refine vcR [] (lkL [(11,[3,4])]) (lkL [(11,[(3,ROrc.kcall (AV.bool (List.any (ofH p.rules.l (↑a:Int)) (a8 v S)))),(5,ROrc.pcall (tup 0 (nth [])))])]) (fun Q=>(fun (u1:List AObj)=>1<=1/\1<=1/\(true=true/\Does Tryd.prog R 115 [ref 0 0,i6 (↑a:Int),int u64 (↑S:Int)] u1 g (ret (AV.bool (List.any (ofH p.rules.l (↑a:Int)) (a8 v S)))) u1 g)/\(∀(hp:List AObj) (g:R.σ),true=true/\Does Tryd.prog R 140 [AV.bool !List.any (ofH p.rules.l (↑a:Int)) (a8 v S)] hp g (ret (tup 0 (nth []))) hp g)/\Q AEx.normal (St.mk [(3,ref 3 0),(4,ref 4 0)] u1 g)) ([cO 27 (ad p v (AV.mp 1)),AObj.map es,cO 2 (nth [i6 s.rule,ah s.atoms]),cO 1 fun x=>ref 0 0,cO 1 fun x=>int u64 (↑S:Int)])) ⟨omg,omg,⟨rfl,(doT (T:=LT) [0,1] 5 (fun R _ g=>jY R (p) (v) (es) (S) (a) omg omg omg omg omg g))⟩,(fun _ _=>⟨rfl,(dQ _ _ omg _ _)⟩),?_⟩
    refine(eE rfl (aY trivial rfl rfl))
   ·refine vcR [] (lkL [(10,[3,4,7])]) (fun _=>[]) (fun (Q:AEx->St R.σ->Prop)=>Q AEx.normal (St.mk [(3,ref 3 0),(4,ref 4 0),(7,i6 (↑(List.getD (ak S) K 0):Int))] [cO 27 (ad p v (AV.mp 1)),AObj.map es,cO 2 (nth [i6 s.rule,ah s.atoms]),cO 1 fun (x:Nat)=>ref 0 0,cO 1 fun (x:Nat)=>int u64 (↑S:Int),dead] g)) (?_)
    show Wp _ _ _ 6 _ _ _ _ _
    obtain⟨a,ha⟩:∃a,(ak S).getD K 0=a:=⟨_,rfl⟩
    have ha24:a<24:=by rw[<-ha];exact hin K hK
    have hm:(!(ofH p.rules.l a).any (a8 v S))=false:=by rw[<-ha,hKs];rfl
    rw[ha]
    refine vcR [] (lkL [(11,[3,4])]) (lkL [(11,[(3,ROrc.kcall (AV.bool (List.any (ofH p.rules.l (↑a:Int)) (a8 v S)))),(5,ROrc.cpan (ifc 145 (agg 0 (nth []))) [cO 27 (ad p v (AV.mp 1)),AObj.map es,cO 2 (nth [i6 s.rule,ah s.atoms]),cO 1 fun (x:Nat)=>ref 0 0,cO 1 fun (x:Nat)=>int u64 (↑S:Int),dead] g)])]) (fun Q=>(fun (u1:List AObj)=>1<=1/\1<=1/\(true=true/\Does Tryd.prog R 115 [ref 0 0,i6 (↑a:Int),int u64 (↑S:Int)] u1 g (ret (AV.bool (List.any (ofH p.rules.l (↑a:Int)) (a8 v S)))) u1 g)/\(true=true/\Does Tryd.prog R 140 [AV.bool !List.any (ofH p.rules.l (↑a:Int)) (a8 v S)] u1 g (Oc.pan (ifc 145 (agg 0 (nth [])))) u1 g)/\Q (AEx.pan (ifc 145 (agg 0 (nth [])))) (St.mk [(3,ref 3 0),(4,ref 4 0)] u1 g)) ([cO 27 (ad p v (AV.mp 1)),AObj.map es,cO 2 (nth [i6 s.rule,ah s.atoms]),cO 1 fun x=>ref 0 0,cO 1 fun x=>int u64 (↑S:Int),dead])) ⟨omg,omg,⟨rfl,(doT (T:=LT) [0,1] 6 (fun R _ g=>jY R (p) (v) (es) (S) (a) omg omg omg omg omg g))⟩,⟨rfl,(iH _ _ omg _ _)⟩,?_⟩
    refine⟨krf,?_⟩
    exact ej (s':=⟨[(0,.ifc 145 (.agg 0 (nth [])))],[cO 27 (ad p v (.mp 1)),.map es],g⟩) [0,1] 6 rfl rfl rfl rfl rfl ⟨AM _,trivial⟩ ⟨AY (fun j hj=>(b9 (f:=au [0,1] 6) rfl).symm),rfl,trivial⟩
theorem z1 (R:Res)[Tab LT R](p:Prg)(v:Nat->Int)(es:List (Value × AV))(s:Step)(hl:p.rules.l.length<1000000)(hr:∀r,r∈p.rules.l->aE r)(hes:HeadsOk es p.rules.l)(hp:1<=p.atoms/\p.atoms<=24)(hsl:s.atoms.l.length<1000000)(g:R.σ):Does Tryd.prog R 139 [bm s,.ref 0 0] [cO 27 (ad p v (.mp 1)),.map es] g (rQ (dh p v s)) [cO 27 (ad p (match dh p v s with|true=>bI v (aH s.atoms.l)|false=>v) (.mp 1)),.map es] g:=by
 by_cases h:cV p v s.atoms.l=true/\dg p v (aH s.atoms.l)=false
 ·have hu:dh p v s=false:=by unfold dh;rw[h.1,h.2];rfl
  rw[hu]
  exact zZ R p v es s hl hr hes hp hsl h.1 h.2 g
 ·exact xK R p v es s hl hr hes hp hsl (fun hc=>by
   cases hn:dg p v (aH s.atoms.l) with
   |true=>rfl
   |false=>exact absurd ⟨hc,hn⟩ h) g
def okS (p:Prg)(v:Nat->Int)(s:Step):Bool:=if s.rule = -1 then dh p v s else cH p v s
def newS (p:Prg)(v:Nat->Int)(s:Step):Nat->Int:=if s.rule = -1 then bI v (aH s.atoms.l) else er p v s
theorem mf {R:Res}{f:FuncId}{p:Prg}{v v':Nat->Int}{es:List (Value × AV)}{s:Step}{x:Oc}(hx:∀F,iu F x=x)(h:∀(R:Res) [Tab LT R] (g:R.σ),Does Tryd.prog R f [bm s,.ref 0 0] [cO 27 (ad p v (.mp 1)),.map es] g x [cO 27 (ad p v' (.mp 1)),.map es] g)[Tab LT R](n:Nat)(c:Nat->AV)(g:R.σ) :
  Does Tryd.prog R f [bm s,.ref 0 0] [cO 27 (ad p v (.mp 1)),.map es,cO n c] g x [cO 27 (ad p v' (.mp 1)),.map es,cO n c] g:=
 el (T:=LT) inferInstance [0,1] 3 (fun R _ g=>h R g) rfl rfl rfl ⟨AY (fun j hj=>(b9 (f:=au [0,1] 3) rfl).symm),rfl,trivial⟩ (by exact⟨dcd,trivial⟩) ⟨bp (by exact⟨⟨trivial,trivial⟩,trivial⟩),AM _,trivial⟩ (by rw[hx];cases x <;> exact AM _) ⟨AY (fun j hj=>b9 rfl),rfl,AP _,trivial⟩
theorem z2 (R:Res)[Tab LT R](p:Prg)(v v':Nat->Int)(es:List (Value × AV))(s:Step)(h:∀(R:Res) [Tab LT R] (g:R.σ),Does Tryd.prog R 141 [bm s,.ref 0 0] [cO 27 (ad p v (.mp 1)),.map es] g (.ret (.tup 0 (nth []))) [cO 27 (ad p v' (.mp 1)),.map es] g)(g:R.σ):Does Tryd.prog R 67 [.ref 0 0,.ifc 149 (bm s)] [cO 27 (ad p v (.mp 1)),.map es] g (.ret (.bool true)) [cO 27 (ad p v' (.mp 1)),.map es] g:=by
 refine jG (K:=100) (nt:=bC Tryd.prog 67) (rs:=cG Tryd.prog 67) (k0:=2) 5 [4] krf krf krf rfl krf krf dcd dcd ?_
 refine vcR [] (lkL [(0,[0,1,4])]) (fun _=>[]) (fun (Q:AEx->St R.σ->Prop)=>Q AEx.normal (St.mk [(0,ref 0 0),(1,ifc 149 (bm s)),(4,ref 2 0)] [cO 27 (ad p v (AV.mp 1)),AObj.map es,cO 1 fun (a:Nat)=>AV.bool false] g)) (?_)
 refine jH 3 [.ref 2 0] rfl rfl rfl ?_
 have hD:=fun (R:Res) [Tab LT R] (n:Nat) (c:Nat->AV) (g:R.σ)=>mf (R:=R) (fun _=>rfl) h n c g
 refine vcR [] (lkL [(2,[4]),(3,[4])]) (lkL [(2,[(2,ROrc.inv (tup 0 (nth [])) [cO 27 (ad p v' (AV.mp 1)),AObj.map es,cO 1 fun (a:Nat)=>AV.bool false] g)]),(3,[(0,ROrc.val (Orc.obj (nth [AV.bool true])))])]) (fun Q=>(fun (u1:List AObj)=>(true=true/\true=true/\Does Tryd.prog R 141 [bm s,ref 0 0] (cO 27 (ad p v (AV.mp 1))::u1) g (ret (tup 0 (nth []))) (cO 27 (ad p v' (AV.mp 1))::u1) g)/\1<=1/\(∀(c:Nat),c<1->nth [AV.bool true] c=ao (fun (a:Nat)=>AV.bool false) 0 1 (fun (x:Nat)=>AV.bool true) c)/\Q AEx.ret (St.mk [(4,ref 2 0)] [cO 27 (ad p v' (AV.mp 1)),AObj.map es,cO 1 (nth [AV.bool true])] g)) ([AObj.map es,cO 1 fun a=>AV.bool false])) ⟨⟨krf,rfl,(hD _ _ _ _)⟩,omg,(fun c hc=>match c,hc with|0,_=>krf ),?_⟩
 refine⟨_,_,sP R p v' es _ g,?_⟩
 refine(av (bZ 2 (AV.bool true) ([0+(TyI.mk (TypeInfo.mk TypeDesc.bool "bool" 1 1 false 1 1 (some (Value.bool false)) true #[]).desc Tryd.prog.types[4].size Tryd.prog.types[4].bytes (cd (dk (Value.bool false))) (cL (TypeInfo.mk TypeDesc.bool "bool" 1 1 false 1 1 (some (Value.bool false)) true #[]).desc) (dI Tryd.prog 4)).size<=1]) krf (by exact⟨dcd,trivial⟩) omg trivial ⟨(fun _ _=>(by first|exact trivial|apply aZ)),trivial⟩ krf rfl rfl) (AM _))
theorem z3 (R:Res)[Tab LT R](p:Prg)(v:Nat->Int)(es:List (Value × AV))(s:Step)(h:∀(R:Res) [Tab LT R] (g:R.σ),Does Tryd.prog R 141 [bm s,.ref 0 0] [cO 27 (ad p v (.mp 1)),.map es] g (.pan (.ifc 145 (.agg 0 (nth [])))) [cO 27 (ad p v (.mp 1)),.map es] g)(g:R.σ):Does Tryd.prog R 67 [.ref 0 0,.ifc 149 (bm s)] [cO 27 (ad p v (.mp 1)),.map es] g (.ret (.bool false)) [cO 27 (ad p v (.mp 1)),.map es] g:=by
 refine jG (K:=100) (nt:=bC Tryd.prog 67) (rs:=cG Tryd.prog 67) (k0:=2) 5 [4] krf krf krf rfl krf krf dcd dcd ?_
 refine vcR [] (lkL [(0,[0,1,4])]) (fun _=>[]) (fun (Q:AEx->St R.σ->Prop)=>Q AEx.normal (St.mk [(0,ref 0 0),(1,ifc 149 (bm s)),(4,ref 2 0)] [cO 27 (ad p v (AV.mp 1)),AObj.map es,cO 1 fun (a:Nat)=>AV.bool false] g)) (?_)
 refine jH 3 [.ref 2 0] rfl rfl rfl ?_
 have hD:=fun (R:Res) [Tab LT R] (n:Nat) (c:Nat->AV) (g:R.σ)=>mf (R:=R) (fun _=>rfl) h n c g
 refine vcR [] (lkL [(2,[4])]) (lkL [(2,[(2,ROrc.ipan (ifc 145 (agg 0 (nth []))) [cO 27 (ad p v (AV.mp 1)),AObj.map es,cO 1 fun (a:Nat)=>AV.bool false] g)])]) (fun Q=>(fun (u1:List AObj)=>(true=true/\true=true/\Does Tryd.prog R 141 [bm s,ref 0 0] u1 g (Oc.pan (ifc 145 (agg 0 (nth [])))) u1 g)/\Q (AEx.pan (ifc 145 (agg 0 (nth [])))) (St.mk [(4,ref 2 0)] u1 g)) ([cO 27 (ad p v (AV.mp 1)),AObj.map es,cO 1 fun a=>AV.bool false])) ⟨⟨krf,rfl,(hD _ _ _ _)⟩,?_⟩
 refine⟨_,_,oM R p v es _ g,?_⟩
 refine(av (bZ 2 (AV.bool false) ([0+(TyI.mk (TypeInfo.mk TypeDesc.bool "bool" 1 1 false 1 1 (some (Value.bool false)) true #[]).desc Tryd.prog.types[4].size Tryd.prog.types[4].bytes (cd (dk (Value.bool false))) (cL (TypeInfo.mk TypeDesc.bool "bool" 1 1 false 1 1 (some (Value.bool false)) true #[]).desc) (dI Tryd.prog 4)).size<=1]) krf (by exact⟨dcd,trivial⟩) omg trivial ⟨(fun _ _=>(by first|exact trivial|apply aZ)),trivial⟩ krf rfl rfl) (AM _))
theorem z4 (R:Res)[Tab LT R](p:Prg)(v v':Nat->Int)(es:List (Value × AV))(s:Step)(h:∀(R:Res) [Tab LT R] (g:R.σ),Does Tryd.prog R 139 [bm s,.ref 0 0] [cO 27 (ad p v (.mp 1)),.map es] g (.ret (.tup 0 (nth []))) [cO 27 (ad p v' (.mp 1)),.map es] g)(g:R.σ):Does Tryd.prog R 67 [.ref 0 0,.ifc 148 (bm s)] [cO 27 (ad p v (.mp 1)),.map es] g (.ret (.bool true)) [cO 27 (ad p v' (.mp 1)),.map es] g:=by
 refine jG (K:=100) (nt:=bC Tryd.prog 67) (rs:=cG Tryd.prog 67) (k0:=2) 5 [4] krf krf krf rfl krf krf dcd dcd ?_
 refine vcR [] (lkL [(0,[0,1,4])]) (fun _=>[]) (fun (Q:AEx->St R.σ->Prop)=>Q AEx.normal (St.mk [(0,ref 0 0),(1,ifc 148 (bm s)),(4,ref 2 0)] [cO 27 (ad p v (AV.mp 1)),AObj.map es,cO 1 fun (a:Nat)=>AV.bool false] g)) (?_)
 refine jH 3 [.ref 2 0] rfl rfl rfl ?_
 have hD:=fun (R:Res) [Tab LT R] (n:Nat) (c:Nat->AV) (g:R.σ)=>mf (R:=R) (fun _=>rfl) h n c g
 refine vcR [] (lkL [(2,[4]),(3,[4])]) (lkL [(2,[(2,ROrc.inv (tup 0 (nth [])) [cO 27 (ad p v' (AV.mp 1)),AObj.map es,cO 1 fun (a:Nat)=>AV.bool false] g)]),(3,[(0,ROrc.val (Orc.obj (nth [AV.bool true])))])]) (fun Q=>(fun (u1:List AObj)=>(true=true/\true=true/\Does Tryd.prog R 139 [bm s,ref 0 0] (cO 27 (ad p v (AV.mp 1))::u1) g (ret (tup 0 (nth []))) (cO 27 (ad p v' (AV.mp 1))::u1) g)/\1<=1/\(∀(c:Nat),c<1->nth [AV.bool true] c=ao (fun (a:Nat)=>AV.bool false) 0 1 (fun (x:Nat)=>AV.bool true) c)/\Q AEx.ret (St.mk [(4,ref 2 0)] [cO 27 (ad p v' (AV.mp 1)),AObj.map es,cO 1 (nth [AV.bool true])] g)) ([AObj.map es,cO 1 fun a=>AV.bool false])) ⟨⟨krf,rfl,(hD _ _ _ _)⟩,omg,(fun c hc=>match c,hc with|0,_=>krf ),?_⟩
 refine⟨_,_,sP R p v' es _ g,?_⟩
 refine(av (bZ 2 (AV.bool true) ([0+(TyI.mk (TypeInfo.mk TypeDesc.bool "bool" 1 1 false 1 1 (some (Value.bool false)) true #[]).desc Tryd.prog.types[4].size Tryd.prog.types[4].bytes (cd (dk (Value.bool false))) (cL (TypeInfo.mk TypeDesc.bool "bool" 1 1 false 1 1 (some (Value.bool false)) true #[]).desc) (dI Tryd.prog 4)).size<=1]) krf (by exact⟨dcd,trivial⟩) omg trivial ⟨(fun _ _=>(by first|exact trivial|apply aZ)),trivial⟩ krf rfl rfl) (AM _))
theorem z5 (R:Res)[Tab LT R](p:Prg)(v:Nat->Int)(es:List (Value × AV))(s:Step)(h:∀(R:Res) [Tab LT R] (g:R.σ),Does Tryd.prog R 139 [bm s,.ref 0 0] [cO 27 (ad p v (.mp 1)),.map es] g (.pan (.ifc 145 (.agg 0 (nth [])))) [cO 27 (ad p v (.mp 1)),.map es] g)(g:R.σ):Does Tryd.prog R 67 [.ref 0 0,.ifc 148 (bm s)] [cO 27 (ad p v (.mp 1)),.map es] g (.ret (.bool false)) [cO 27 (ad p v (.mp 1)),.map es] g:=by
 refine jG (K:=100) (nt:=bC Tryd.prog 67) (rs:=cG Tryd.prog 67) (k0:=2) 5 [4] krf krf krf rfl krf krf dcd dcd ?_
 refine vcR [] (lkL [(0,[0,1,4])]) (fun _=>[]) (fun (Q:AEx->St R.σ->Prop)=>Q AEx.normal (St.mk [(0,ref 0 0),(1,ifc 148 (bm s)),(4,ref 2 0)] [cO 27 (ad p v (AV.mp 1)),AObj.map es,cO 1 fun (a:Nat)=>AV.bool false] g)) (?_)
 refine jH 3 [.ref 2 0] rfl rfl rfl ?_
 have hD:=fun (R:Res) [Tab LT R] (n:Nat) (c:Nat->AV) (g:R.σ)=>mf (R:=R) (fun _=>rfl) h n c g
 refine vcR [] (lkL [(2,[4])]) (lkL [(2,[(2,ROrc.ipan (ifc 145 (agg 0 (nth []))) [cO 27 (ad p v (AV.mp 1)),AObj.map es,cO 1 fun (a:Nat)=>AV.bool false] g)])]) (fun Q=>(fun (u1:List AObj)=>(true=true/\true=true/\Does Tryd.prog R 139 [bm s,ref 0 0] u1 g (Oc.pan (ifc 145 (agg 0 (nth [])))) u1 g)/\Q (AEx.pan (ifc 145 (agg 0 (nth [])))) (St.mk [(4,ref 2 0)] u1 g)) ([cO 27 (ad p v (AV.mp 1)),AObj.map es,cO 1 fun a=>AV.bool false])) ⟨⟨krf,rfl,(hD _ _ _ _)⟩,?_⟩
 refine⟨_,_,oM R p v es _ g,?_⟩
 refine(av (bZ 2 (AV.bool false) ([0+(TyI.mk (TypeInfo.mk TypeDesc.bool "bool" 1 1 false 1 1 (some (Value.bool false)) true #[]).desc Tryd.prog.types[4].size Tryd.prog.types[4].bytes (cd (dk (Value.bool false))) (cL (TypeInfo.mk TypeDesc.bool "bool" 1 1 false 1 1 (some (Value.bool false)) true #[]).desc) (dI Tryd.prog 4)).size<=1]) krf (by exact⟨dcd,trivial⟩) omg trivial ⟨(fun _ _=>(by first|exact trivial|apply aZ)),trivial⟩ krf rfl rfl) (AM _))
theorem z6 (R:Res)[Tab LT R](p:Prg)(v:Nat->Int)(es:List (Value × AV))(s:Step)(hl:p.rules.l.length<1000000)(hr:∀r,r∈p.rules.l->aE r)(hes:HeadsOk es p.rules.l)(hp:1<=p.atoms/\p.atoms<=24)(hsl:s.atoms.l.length<1000000)(g:R.σ):Does Tryd.prog R 67 [.ref 0 0,de s] [cO 27 (ad p v (.mp 1)),.map es] g (.ret (.bool (okS p v s))) [cO 27 (ad p (if okS p v s then newS p v s else v) (.mp 1)),.map es] g:=by
 unfold okS newS de
 by_cases h:s.rule = -1
 ·rw[if_pos h,if_pos h,if_pos h]
  have hU:=fun (R:Res) [Tab LT R] (g:R.σ)=>z1 R p v es s hl hr hes hp hsl g
  cases hu:dh p v s with
  |true=>
   simp only[hu] at hU
   exact z4 R p v _ es s hU g
  |false=>
   simp only[hu] at hU
   exact z5 R p v es s hU g
 ·rw[if_neg h,if_neg h,if_neg h]
  cases hu:cH p v s with
  |true=>exact z2 R p v _ es s (fun R _ g=>xJ R p v es s hl hr hu g) g
  |false=>exact z3 R p v es s (fun R _ g=>rR R p v es s hl hr hu g) g
end Go.Avm.Pack
