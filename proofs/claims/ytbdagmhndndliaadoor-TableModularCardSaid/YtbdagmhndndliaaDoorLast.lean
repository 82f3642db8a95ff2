/- TableModular returns true, and leaves its arguments as they were. No conditions: every input that can be read as data. -/
import Derived.Test.YtbdagmhndndliaaDoorM5
namespace Go.Avm.Pack
open Go Go.Avm Go.Proofs
open Go.IntKind (i64 u64)
open Go.Avm.AV (int bool any fz fp sl ow ref fn ifc val agg tup)
open Go.Avm.AObj (cells dead)
open Go.Avm.Oc (ret)
set_option maxRecDepth 4000
def cB (p:Prg):List Step->(Nat->Int)->Nat->Int
 |[],_,_=> -1
 |s::l,v,i=>if okS p v s then cB p l (newS p v s) (i+1) else i
def bw (p:Prg)(v:Nat->Int)(l:List Step):Nat->Int:=l.foldl (newS p) v
theorem tc {p:Prg}{v:Nat->Int}{l:List Step}{i:Nat}(h:i<l.length):bw p v (l.take (i+1))=newS p (bw p v (l.take i)) (l.getD i default):=j8 (newS p) v l default h
theorem z7 {f:Nat->Nat}{p:Prg}{v:Nat->Int}{j k m:Nat}(h:f k=m):aI f (ad p v (.mp k) j)=ad p v (.mp m) j:=by
 subst h
 unfold ad
 split
 ·rfl
 ·split
  ·rfl
  ·split <;> rfl
theorem te (R:Res)[Tab LT R](p:Prg)(v:Nat->Int)(es:List (Value × AV))(s:Step)(n0 n3:Nat)(c0 c3:Nat->AV)(hl:p.rules.l.length<1000000)(hr:∀r,r∈p.rules.l->aE r)(hes:HeadsOk es p.rules.l)(hp:1<=p.atoms/\p.atoms<=24)(hsl:s.atoms.l.length<1000000)(g:R.σ):Does Tryd.prog R 67 [.ref 1 0,de s] [cO n0 c0,cO 27 (ad p v (.mp 2)),.map es,cO n3 c3] g (.ret (.bool (okS p v s))) [cO n0 c0,cO 27 (ad p (if okS p v s then newS p v s else v) (.mp 2)),.map es,cO n3 c3] g:=
 el (T:=LT) inferInstance [1,2] 4 (fun R _ g=>z6 R p v es s hl hr hes hp hsl g) rfl rfl rfl ⟨AY (fun j hj=>(b9 (f:=au [1,2] 4) rfl).symm),rfl,trivial⟩ (by exact⟨dcd,trivial⟩) ⟨AM _,bp (by unfold de;split <;> exact⟨⟨trivial,trivial⟩,trivial⟩),trivial⟩ (AM _) ⟨AP _,AY (fun j hj=>b9 rfl),rfl,AP _,trivial⟩
theorem z8 (R:Res)[Tab LT R](p:Prg)(l:KL Step)(hb:aD p=true)(hll:l.l.length<1000000)(hal:∀i,(l.l.getD i default).atoms.l.length<1000000)(g:R.σ):Does Tryd.prog R 23 [aw p,ax l] [] g (.ret (.tup 2 (nth [.int .i64 (if 0<=cB p l.l (fun _=>3) 0 then cB p l.l (fun _=>3) 0 else 0),.int .i64 (if 0<=cB p l.l (fun _=>3) 0 then 7 else 0)]))) [] g:=by
 obtain⟨hl,hr,hp,hh,hx⟩:=eK hb
 have hs:em p:=gl hb
 have hp':1<=p.atoms/\p.atoms<=24:=hp
 refine spW (nt:=28) (rs:=[.tmp 4,.tmp 5]) (k0:=0) ?_
 have hc:((if aD p then(0:Int) else 2) != 0)=false:=by
  rw[hb]
  rfl
 refine vcR [[1,0,1,0]] (lkL [(0,[1,2]),(1,[1,2,11]),(3,[1,6]),(4,[6,14,15,16])]) (lkL [(1,[(1,ROrc.pcall (i6 (if aD p=true then 0 else 2)))]),(3,[(1,ROrc.call (ref 1 0) [cO 2 (nth [i6 p.atoms,ae p.rules]),cO 27 (ad p (fun (x:Nat)=>3) (AV.mp 2)),AObj.map (esF p.rules.l)] g)])]) (fun Q=>(fun (u1:AObj)=>(fun (u2:Int)=>(fun (u3:List AObj)=>2<=2/\(∀(hp:List AObj) (g:R.σ),true=true/\Does Tryd.prog R 16 [aw p] hp g (ret (i6 u2)) hp g)/\((u2 != 0)=true->WpC Tryd.prog R 28 0 23 [1,0,1,0] Q [Kont.seq [1,1]] (St.mk [(1,ax l),(2,ref 0 0),(11,AV.bool (u2 != 0))] [u1] g))/\((u2 != 0)=false->2<=2/\(true=true/\Does Tryd.prog R 66 [aw p] [u1] g (ret (ref 1 0)) u3 g)/\WpC Tryd.prog R 28 0 23 [1,1,1,0,1,0] Q [Kont.blk 0,Kont.seq [1,1,1,1]] (St.mk [(6,ref 1 0),(14,ax l),(15,i6 (↑(List.length l.l):Int)),(16,i6 0)] u3 g))) ([u1,cO 27 (ad p (fun (x:Nat)=>3) (AV.mp 2)),AObj.map (esF p.rules.l)])) (if aD p=true then 0 else 2)) (cO 2 (nth [i6 p.atoms,ae p.rules]))) ⟨omg,(fun _ _=>⟨rfl,(ga _ _ _ _ omg)⟩),fun hcc=>(nomatch (hc.symm.trans hcc)),fun _=>⟨omg,⟨rfl,(lW _ _ _ omg omg _)⟩,?_⟩⟩
 refine(bi krf (fun (i:Nat)=>⟨[(6,ref 1 0),(14,ax l),(15,i6 (l.l.length:Int)),(16,.int .i64 i)],[cO 2 (nth [.int .i64 p.atoms,ae p.rules]),cO 27 (ad p (bw p (fun _=>3) (l.l.take i)) (.mp 2)),.map (esF p.rules.l)],g⟩) (fun (i:Nat)=>(i<=l.l.length/\cB p l.l (fun _=>3) 0=cB p (l.l.drop i) (bw p (fun _=>3) (l.l.take i)) i)) (fun (i:Nat)=>(l.l.length-i)) 0 (toL (h1:=⟨AM _,AM _,AM _,(AN krf),trivial⟩)) ?_ (fun i hi=>?_))
 ·exact⟨Nat.zero_le _,rfl⟩
 ·obtain⟨h1,h2⟩:=hi
  rcases Nat.lt_or_ge i l.l.length with hlt|hge
  ·rw[eG l.l default hlt] at h2
   have hrt:=tc (p:=p) (v:=fun _=>3) hlt
   obtain⟨v,hv⟩:∃v,bw p (fun _=>3) (l.l.take i)=v:=⟨_,rfl⟩
   rw[hv] at hrt h2 ⊢
   have h2:cB p l.l (fun _=>3) 0=if okS p v (l.l.getD i default) then cB p (l.l.drop (i+1)) (newS p v (l.l.getD i default)) (i+1) else i:=h2
   have hD:=fun (R:Res) [Tab LT R] (n0 n3:Nat) (c0 c3:Nat->AV) (g:R.σ)=>te R p v (esF p.rules.l) (l.l.getD i default) n0 n3 c0 c3 hl hr (n7 hr) hp (hal i) g
   cases hk:okS p v (l.l.getD i default) with
   |true=>
    simp only[hk,if_true] at hD
    rw[if_pos hk] at h2
    refine vcR [[1,1,1,0,1,0,0,1,1,0,0,1,1,0]] (lkL [(5,[6,14,15,16,17]),(6,[6,7,8,14,15,16]),(7,[6,7,14,15,16,25]),(9,[6,14,15,16])]) (lkL [(6,[(5,ROrc.val (Orc.obj (nth [i6 (List.getD l.l i default).rule,fz (List.getD l.l i default).atoms.2 1 (List.length (List.getD l.l i default).atoms.l) fun (i_1 x:Nat)=>af (List.getD l.l i default).atoms.l i_1])))]),(7,[(2,ROrc.pcall (de (List.getD l.l i default))),(3,ROrc.call (AV.bool true) [cO 2 (nth [i6 p.atoms,ae p.rules]),cO 27 (ad p (newS p v (List.getD l.l i default)) (AV.mp 2)),AObj.map (esF p.rules.l),cO 2 (nth [i6 (List.getD l.l i default).rule,fz (List.getD l.l i default).atoms.2 1 (List.length (List.getD l.l i default).atoms.l) fun (i_1 x:Nat)=>af (List.getD l.l i default).atoms.l i_1])] g)])]) (fun Q=>(fun (u1:List AV)=>(fun (u2:List AObj)=>(fun (u3:Int)=>(fun (u4:Int)=>(fun (u5:AObj)=>(decide (u4<u3)=true->(0<=u4/\u4<u3)/\2<=2/\2<=2/\(∀(c:Nat),c<2->nth u1 c=ao (nth [i6 0,fz Fz.nil 0 0 fun x x_1=>any]) 0 2 (List.brecOn (motive:=fun (x:List AV)=>Nat->AV) u1 nth._f) c)/\2<=2/\(∀(hp:List AObj) (g:R.σ),true=true/\Does Tryd.prog R 68 [agg 2 (nth u1)] hp g (ret (de (List.getD l.l i default))) hp g)/\(true=true/\Does Tryd.prog R 67 [ref 1 0,evO [Row.mk (some 23) none (de (List.getD l.l i default)) false (some []) [],Row.mk (some 22) none (agg 2 (nth u1)) false (some []) [3],Row.mk (some 21) none (ref 1 0) false (some []) []] [(6,ref 1 0),(7,i6 u4),(8,ref 3 0),(14,ax l),(15,i6 u3),(16,i6 u4)] [] (Operand.tmp 23)] [u5,cO 27 (ad p v (AV.mp 2)),AObj.map (esF p.rules.l),cO 2 (nth u1)] g (ret (AV.bool true)) u2 g)/\(false=true->WpC Tryd.prog R 28 0 23 [1,1,1,0,1,0,0,1,1,0,0,1,1,0] Q [Kont.blk 1,Kont.seq [1,1,1,0,1,0,0,1,1,1]] (St.mk [(6,ref 1 0),(7,i6 u4),(14,ax l),(15,i6 u3),(16,i6 u4),(25,AV.bool false)] u2 g))/\(false=false->(-9223372036854775808<=u4+1/\u4+1<=9223372036854775807)/\Q AEx.normal (St.mk [(6,ref 1 0),(14,ax l),(15,i6 u3),(16,i6 (u4+1))] u2 g)))/\(decide (u4<u3)=false->Q (AEx.exit 0) (St.mk [(6,ref 1 0),(14,ax l),(15,i6 u3),(16,i6 u4),(17,AV.bool (decide (u4<u3)))] [u5,cO 27 (ad p v (AV.mp 2)),AObj.map (esF p.rules.l)] g))) (cO 2 (nth [i6 p.atoms,ae p.rules]))) ((↑i:Int))) ((↑(List.length l.l):Int))) ([cO 2 (nth [i6 p.atoms,ae p.rules]),cO 27 (ad p (newS p v (List.getD l.l i default)) (AV.mp 2)),AObj.map (esF p.rules.l),cO 2 (nth u1)])) ([i6 (List.getD l.l i default).rule,fz (List.getD l.l i default).atoms.2 1 (List.length (List.getD l.l i default).atoms.l) fun i_1 x=>af (List.getD l.l i default).atoms.l i_1])) ⟨fun c1=>have c1:(↑i:Int)<(↑(List.length l.l):Int):=(of_decide_eq_true c1);⟨omg,omg,omg,(fun c hc=>match c,hc with|0,_=>krf|1,_=>krf ),omg,(fun _ _=>⟨rfl,(lG _ _ _ _)⟩),⟨rfl,(hD _ _ _ _ _ _)⟩,fun h=>(nomatch h),fun _=>⟨omg,?_⟩⟩,fun c1=>have c1:¬(↑i:Int)<(↑(List.length l.l):Int):=(of_decide_eq_false c1);?_⟩
    ·refine(aW (i+1) (toS [0,1,2] 4 (hob:=⟨⟨rfl,Nat.le_refl _,fun j hj=>match j,hj with|0,_=>(AM _)|1,_=>(AM _) ⟩,(AY (fun j hj=>?_)),rfl,trivial⟩)) ?_ ?_)
     ·rw[hrt]
      exact(z7 (f:=au [0,1,2] 4) (k:=2) rfl).symm
     ·refine⟨omg,?_⟩
      rw[hrt]
      exact h2
     ·omega
    ·exfalso;omega
   |false=>
    simp only[hk,if_false] at hD
    rw[if_neg (by rw[hk];decide)] at h2
    rw[h2,if_pos omg,if_pos omg]
    refine vcR [[1,1,1,0,1,0,0,1,1,0,0,1,1,1]] (lkL [(5,[6,14,15,16,17]),(6,[6,7,8,14,15,16]),(7,[6,7,14,15,16,25]),(8,[4,5])]) (lkL [(6,[(5,ROrc.val (Orc.obj (nth [i6 (List.getD l.l i default).rule,fz (List.getD l.l i default).atoms.2 1 (List.length (List.getD l.l i default).atoms.l) fun (i_1 x:Nat)=>af (List.getD l.l i default).atoms.l i_1])))]),(7,[(2,ROrc.pcall (de (List.getD l.l i default))),(3,ROrc.call (AV.bool false) [cO 2 (nth [i6 p.atoms,ae p.rules]),cO 27 (ad p (if false=true then newS p v (List.getD l.l i default) else v) (AV.mp 2)),AObj.map (esF p.rules.l),cO 2 (nth [i6 (List.getD l.l i default).rule,fz (List.getD l.l i default).atoms.2 1 (List.length (List.getD l.l i default).atoms.l) fun (i_1 x:Nat)=>af (List.getD l.l i default).atoms.l i_1])] g)])]) (fun Q=>(fun (u1:List AV)=>(fun (u2:List AObj)=>(fun (u3:Int)=>(fun (u4:Int)=>(fun (u5:AObj)=>(decide (u4<u3)=true->(0<=u4/\u4<u3)/\2<=2/\2<=2/\(∀(c:Nat),c<2->nth u1 c=ao (nth [i6 0,fz Fz.nil 0 0 fun x x_1=>any]) 0 2 (List.brecOn (motive:=fun (x:List AV)=>Nat->AV) u1 nth._f) c)/\2<=2/\(∀(hp:List AObj) (g:R.σ),true=true/\Does Tryd.prog R 68 [agg 2 (nth u1)] hp g (ret (de (List.getD l.l i default))) hp g)/\(true=true/\Does Tryd.prog R 67 [ref 1 0,evO [Row.mk (some 23) none (de (List.getD l.l i default)) false (some []) [],Row.mk (some 22) none (agg 2 (nth u1)) false (some []) [3],Row.mk (some 21) none (ref 1 0) false (some []) []] [(6,ref 1 0),(7,i6 u4),(8,ref 3 0),(14,ax l),(15,i6 u3),(16,i6 u4)] [] (Operand.tmp 23)] [u5,cO 27 (ad p v (AV.mp 2)),AObj.map (esF p.rules.l),cO 2 (nth u1)] g (ret (AV.bool false)) u2 g)/\(true=true->Q AEx.ret (St.mk [(4,i6 u4),(5,i6 7)] u2 g))/\(true=false->WpC Tryd.prog R 28 0 23 [1,1,1,0,1,0,0,1,1,0,0,1,1,1] Q [Kont.blk 1,Kont.seq [1,1,1,0,1,0,0,1,1,1]] (St.mk [(6,ref 1 0),(7,i6 u4),(14,ax l),(15,i6 u3),(16,i6 u4),(25,AV.bool true)] u2 g)))/\(decide (u4<u3)=false->Q (AEx.exit 0) (St.mk [(6,ref 1 0),(14,ax l),(15,i6 u3),(16,i6 u4),(17,AV.bool (decide (u4<u3)))] [u5,cO 27 (ad p v (AV.mp 2)),AObj.map (esF p.rules.l)] g))) (cO 2 (nth [i6 p.atoms,ae p.rules]))) ((↑i:Int))) ((↑(List.length l.l):Int))) ([cO 2 (nth [i6 p.atoms,ae p.rules]),cO 27 (ad p (if false=true then newS p v (List.getD l.l i default) else v) (AV.mp 2)),AObj.map (esF p.rules.l),cO 2 (nth u1)])) ([i6 (List.getD l.l i default).rule,fz (List.getD l.l i default).atoms.2 1 (List.length (List.getD l.l i default).atoms.l) fun i_1 x=>af (List.getD l.l i default).atoms.l i_1])) ⟨fun c1=>have c1:(↑i:Int)<(↑(List.length l.l):Int):=(of_decide_eq_true c1);⟨omg,omg,omg,(fun c hc=>match c,hc with|0,_=>krf|1,_=>krf ),omg,(fun _ _=>⟨rfl,(lG _ _ _ _)⟩),⟨rfl,(hD _ _ _ _ _ _)⟩,fun _=>?_,fun h=>(nomatch h)⟩,fun c1=>have c1:¬(↑i:Int)<(↑(List.length l.l):Int):=(of_decide_eq_false c1);?_⟩
    ·refine⟨_,A0 _,(av (bE _ _ rfl trivial ⟨⟨trivial,trivial⟩,trivial⟩ rfl) (AM _))⟩
    ·exfalso;omega
  ·have hie:i=l.l.length:=by omega
   subst hie
   rw[List.drop_length] at h2
   have h2:cB p l.l (fun _=>3) 0 = -1:=h2
   rw[h2,if_neg omg,if_neg omg]
   refine vcR [] (lkL [(5,[6,14,15,16,17]),(6,[6,7,8,14,15,16]),(7,[6,7,14,15,16,25]),(8,[4,5]),(9,[6,14,15,16])]) (lkL [(6,[(5,ROrc.val (Orc.obj (nth [i6 (List.getD l.l (List.length l.l) default).rule,fz (List.getD l.l (List.length l.l) default).atoms.2 1 (List.length (List.getD l.l (List.length l.l) default).atoms.l) fun (i x:Nat)=>af (List.getD l.l (List.length l.l) default).atoms.l i])))]),(7,[(2,ROrc.pcall (de (List.getD l.l (List.length l.l) default))),(3,ROrc.call (AV.bool (okS p (bw p (fun (x:Nat)=>3) (List.take (List.length l.l) l.l)) (List.getD l.l (List.length l.l) default))) [cO 2 (nth [i6 p.atoms,ae p.rules]),cO 27 (ad p (if okS p (bw p (fun (x:Nat)=>3) (List.take (List.length l.l) l.l)) (List.getD l.l (List.length l.l) default)=true then newS p (bw p (fun (x:Nat)=>3) (List.take (List.length l.l) l.l)) (List.getD l.l (List.length l.l) default) else bw p (fun (x:Nat)=>3) (List.take (List.length l.l) l.l)) (AV.mp 2)),AObj.map (esF p.rules.l),cO 2 (nth [i6 (List.getD l.l (List.length l.l) default).rule,fz (List.getD l.l (List.length l.l) default).atoms.2 1 (List.length (List.getD l.l (List.length l.l) default).atoms.l) fun (i x:Nat)=>af (List.getD l.l (List.length l.l) default).atoms.l i])] g)])]) (fun Q=>(fun (u1:List AV)=>(fun (u2:List AObj)=>(fun (u3:Int)=>(fun (u4:Bool)=>(fun (u5:AObj)=>(fun (u6:AObj)=>(decide (u3<u3)=true->(0<=u3/\u3<u3)/\2<=2/\2<=2/\(∀(c:Nat),c<2->nth u1 c=ao (nth [i6 0,fz Fz.nil 0 0 fun x x_1=>any]) 0 2 (List.brecOn (motive:=fun (x:List AV)=>Nat->AV) u1 nth._f) c)/\2<=2/\(∀(hp:List AObj) (g:R.σ),true=true/\Does Tryd.prog R 68 [agg 2 (nth u1)] hp g (ret (de (List.getD l.l (List.length l.l) default))) hp g)/\(true=true/\Does Tryd.prog R 67 [ref 1 0,evO [Row.mk (some 23) none (de (List.getD l.l (List.length l.l) default)) false (some []) [],Row.mk (some 22) none (agg 2 (nth u1)) false (some []) [3],Row.mk (some 21) none (ref 1 0) false (some []) []] [(6,ref 1 0),(7,i6 u3),(8,ref 3 0),(14,ax l),(15,i6 u3),(16,i6 u3)] [] (Operand.tmp 23)] [u6,u5,AObj.map (esF p.rules.l),cO 2 (nth u1)] g (ret (AV.bool u4)) u2 g)/\((!u4)=true->Q AEx.ret (St.mk [(4,i6 u3),(5,i6 7)] u2 g))/\((!u4)=false->(-9223372036854775808<=u3+1/\u3+1<=9223372036854775807)/\Q AEx.normal (St.mk [(6,ref 1 0),(14,ax l),(15,i6 u3),(16,i6 (u3+1))] u2 g)))/\(decide (u3<u3)=false->Q (AEx.exit 0) (St.mk [(6,ref 1 0),(14,ax l),(15,i6 u3),(16,i6 u3),(17,AV.bool (decide (u3<u3)))] [u6,u5,AObj.map (esF p.rules.l)] g))) (cO 2 (nth [i6 p.atoms,ae p.rules]))) (cO 27 (ad p (bw p (fun (x:Nat)=>3) (List.take (List.length l.l) l.l)) (AV.mp 2)))) (okS p (bw p (fun (x:Nat)=>3) (List.take (List.length l.l) l.l)) (List.getD l.l (List.length l.l) default))) ((↑(List.length l.l):Int))) ([cO 2 (nth [i6 p.atoms,ae p.rules]),cO 27 (ad p (if okS p (bw p (fun (x:Nat)=>3) (List.take (List.length l.l) l.l)) (List.getD l.l (List.length l.l) default)=true then newS p (bw p (fun (x:Nat)=>3) (List.take (List.length l.l) l.l)) (List.getD l.l (List.length l.l) default) else bw p (fun (x:Nat)=>3) (List.take (List.length l.l) l.l)) (AV.mp 2)),AObj.map (esF p.rules.l),cO 2 (nth u1)])) ([i6 (List.getD l.l (List.length l.l) default).rule,fz (List.getD l.l (List.length l.l) default).atoms.2 1 (List.length (List.getD l.l (List.length l.l) default).atoms.l) fun i x=>af (List.getD l.l (List.length l.l) default).atoms.l i])) ⟨fun c1=>have c1:(↑(List.length l.l):Int)<(↑(List.length l.l):Int):=(of_decide_eq_true c1);⟨omg,omg,omg,(fun c hc=>match c,hc with|0,_=>krf|1,_=>krf ),omg,(fun _ _=>⟨rfl,(lG _ _ _ _)⟩),⟨rfl,(te _ _ _ _ _ _ _ _ _ omg omg (by simp at * <;> omega) omg (by simp at * <;> omega) _)⟩,fun c2=>have c2:okS p (bw p (fun (x:Nat)=>3) (List.take (List.length l.l) l.l)) (List.getD l.l (List.length l.l) default)=false:=((Bool.not_eq_true' _).mp c2);?_,fun c2=>have c2:okS p (bw p (fun (x:Nat)=>3) (List.take (List.length l.l) l.l)) (List.getD l.l (List.length l.l) default)=true:=((Bool.not_eq_false' _).mp c2);⟨omg,?_⟩⟩,fun c1=>have c1:¬(↑(List.length l.l):Int)<(↑(List.length l.l):Int):=(of_decide_eq_false c1);?_⟩
   all_goals first|(exfalso;omega)|skip
   refine⟨_,A0 _,vcR [] (lkL [(10,[4,5])]) (fun _=>[]) (fun (Q:AEx->St R.σ->Prop)=>Q AEx.ret (St.mk [(4,i6 0),(5,i6 0)] [cO 2 (nth [i6 p.atoms,ae p.rules]),cO 27 (ad p (bw p (fun (x:Nat)=>3) (List.take (List.length l.l) l.l)) (AV.mp 2)),AObj.map (esF p.rules.l)] g)) (?_)⟩
   refine(av (bE _ _ rfl trivial ⟨⟨trivial,trivial⟩,trivial⟩ rfl) (AM _))
section
variable {p:Prg}{n:Nat}{v:List Int}{f:Nat->Int}
theorem z9 (hpa:p.atoms=n){l:List Int}(h:∀i,i<l.length->eI p f l i=true):∀a,a∈l->0<=a/\a<n/\f a.toNat=3:=by
 intro a hm
 obtain⟨i,hi,rfl⟩:=List.getElem_of_mem hm
 have h1:=h i hi
 have h2:=jZ (lI h1)
 have e:l.getD i 0=l[i]:=by rw[List.getD_eq_getElem?_getD,List.getElem?_eq_getElem hi];rfl
 rw[e,hpa] at h2
 refine⟨h2.1,omg,?_⟩
 unfold eI at h1
 rw[e] at h1
 cases hp:et p l i with
 |false=>rw[hp] at h1;cases h1
 |true=>
  rw[hp] at h1
  exact eq_of_beq h1
theorem oX {l:List Int}(h:∀a,a∈l->0<=a)(j:Nat):(aH l).testBit j=true↔(j:Int)∈l:=by
 rw[sa,List.any_eq_true]
 constructor
 ·rintro ⟨a,ha,hj⟩
  have:=h a ha
  have:a.toNat=j:=eq_of_beq hj
  have:a=j:=by omega
  rw[<-this];exact ha
 ·intro hm
  exact⟨j,hm,by simp⟩
end
end Go.Avm.Pack
namespace Go.Avm.Pack
open Go Go.Avm Go.Proofs
open Go.IntKind (i64 u64)
open Go.Avm.AV (int bool any fz fp sl ow ref fn ifc val agg tup)
open Go.Avm.AObj (cells dead)
open Go.Avm.Oc (ret)
set_option maxRecDepth 4000
theorem Aa (R:Res)(l:KL Int)(u:Value)(q:Int->Bool)(g:R.σ)(hl:l.l.length<1000000)
  (hu:∀r,r∈l.l->∀hp,VDoes Tryd.prog R u [.int .i64 r] hp g (.ret (.bool (q r))) hp g) :
  Does Tryd.prog R 108 [ah l,.val u] [] g (.ret (.int .i64 (aC q l.l 0))) [] g:=by
 refine spW (nt:=19) (rs:=[.tmp 4]) (k0:=0) ?_
 refine vcR [] (lkL [(0,[0,1]),(1,[0,1,7,8])]) (fun _=>[]) (fun (Q:AEx->St R.σ->Prop)=>WpC Tryd.prog R 19 0 108 [1,0,1,0] Q [Kont.blk 0,Kont.seq [1,1]] (St.mk [(0,ah l),(1,val u),(7,i6 (↑(List.length l.l):Int)),(8,i6 0)] [] g)) (?_)
 refine(bi krf (fun (i:Nat)=>⟨[(0,ah l),(1,val u),(7,i6 (l.l.length:Int)),(8,.int .i64 (i:Int))],[],g⟩) (fun (i:Nat)=>(i<=l.l.length/\aC q l.l 0=aC q (l.l.drop i) i)) (fun (i:Nat)=>(l.l.length-i)) 0 (aY ⟨AM _,AM _,AM _,(AN krf),trivial⟩ rfl rfl) ?_ (fun i hi=>?_))
 ·exact⟨Nat.zero_le _,rfl⟩
 ·obtain⟨h1,h2⟩:=hi
  refine vcR [] (lkL [(2,[0,1,7,8,9]),(3,[0,1,5,7,8]),(4,[0,1,5,7,8,16]),(5,[4]),(6,[0,1,7,8])]) (lkL [(4,[(5,ROrc.kcall (AV.bool (q (List.getD l.l i 0))))])]) (fun Q=>(fun (u1:Int)=>(fun (u2:Int)=>(decide (u2<u1)=true->(0<=u2/\u2<u1)/\1<=1/\VDoes Tryd.prog R u [i6 (List.getD l.l i 0)] [] g (ret (AV.bool (q (List.getD l.l i 0)))) [] g/\(q (List.getD l.l i 0)=true->Q AEx.ret (St.mk [(4,i6 u2)] [] g))/\(q (List.getD l.l i 0)=false->(-9223372036854775808<=u2+1/\u2+1<=9223372036854775807)/\Q AEx.normal (St.mk [(0,ah l),(1,val u),(7,i6 u1),(8,i6 (u2+1))] [] g)))/\(decide (u2<u1)=false->Q (AEx.exit 0) (St.mk [(0,ah l),(1,val u),(7,i6 u1),(8,i6 u2),(9,AV.bool (decide (u2<u1)))] [] g))) ((↑i:Int))) ((↑(List.length l.l):Int))) ⟨fun c1=>have c1:(↑i:Int)<(↑(List.length l.l):Int):=(of_decide_eq_true c1);⟨omg,omg,(hu _ ?_ _),fun c2=>?_,fun c2=>⟨omg,?_⟩⟩,fun c1=>have c1:¬(↑i:Int)<(↑(List.length l.l):Int):=(of_decide_eq_false c1);?_⟩
  ·exact bx l.l 0 omg
  ·refine⟨_,A0 _,(av (aX _ _ rfl trivial rfl rfl rfl) (AN ?_))⟩
   show(i6 (↑i:Int))=_
   show AV.int _ _=AV.int _ _
   rw[h2,eG l.l 0 omg];unfold aC;rw[if_pos c2]
  ·refine(aW (i+1) (aY ⟨AM _,AM _,AM _,(AN krf),trivial⟩ rfl rfl) ?_ ?_)
   ·refine⟨omg,?_⟩
    rw[h2,eG l.l 0 omg];conv=>lhs;unfold aC
    rw[c2];rfl
   ·omega
  ·refine⟨_,A0 _,vcR [] (lkL [(7,[4])]) (fun _=>[]) (fun (Q:AEx->St R.σ->Prop)=>Q AEx.ret (St.mk [(4,i6 (-1))] [] g)) (?_)⟩
   refine(av (aX _ _ rfl trivial rfl rfl rfl) (AN ?_))
   show(i6 (-1))=_
   show AV.int _ _=AV.int _ _
   rw[h2,List.drop_eq_nil_of_le omg];rfl
theorem Ab (R:Res)(l:KL Int)(u:Value)(q:Int->Bool)(g:R.σ)(hl:l.l.length<1000000)
  (hu:∀r,r∈l.l->∀hp,VDoes Tryd.prog R u [.int .i64 r] hp g (.ret (.bool (q r))) hp g) :
  Does Tryd.prog R 86 [ah l,.val u] [] g (.ret (.bool (l.l.any q))) [] g:=by
 refine spW (nt:=9) (rs:=[.tmp 4]) (k0:=0) ?_
 refine vcR [] (lkL [(0,[0,1]),(1,[4])]) (lkL [(1,[(2,ROrc.kcall (i6 (aC q l.l 0)))])]) (fun Q=>(true=true/\Does Tryd.prog R 108 [ah l,val u] [] g (ret (i6 (aC q l.l 0))) [] g)/\Q AEx.ret (St.mk [(4,AV.bool (decide (aC q l.l 0 >= 0)))] [] g)) ⟨⟨rfl,(Aa _ _ _ _ _ omg (fun _ _ _=>hu _ omg _))⟩,?_⟩
 refine(av (aX _ _ rfl trivial rfl rfl rfl) (AN ?_))
 show(AV.bool (decide (aC q l.l 0 >= 0)))=_
 show AV.bool _=AV.bool _
 rw[lx]
theorem Ac (R:Res)(l:KL Int)(f na nb:Nat)(a b:Nat->AV)(q:Int->Bool)(hp:List AObj)(g:R.σ)(hl:l.l.length<1000000)(hpl:cf Tryd.prog f=true)
  (h:∀r,r∈l.l->Does Tryd.prog R f (tab na 0 a++[.int .i64 r]++tab nb 0 b) hp g (.ret (.bool (q r))) hp g) :
  Does Tryd.prog R 86 [ah l,.fn f na a nb b] hp g (.ret (.bool (l.l.any q))) hp g:=
 kV (pre:=[ah l]) (D:=fun r=>r∈l.l) (args:=fun r=>[.int .i64 r]) (oc1:=fun r=>.ret (.bool (q r))) ⟨trivial,trivial⟩ hpl (fun r=>⟨trivial,trivial⟩) (fun _=>trivial) h
  (fun R' g' u hu=>Ab R' l u q g' hl hu)
def oY (x:Int):Bool:=bif decide (x<1) then true else decide (x > 3)
theorem Ad (R:Res)(x:Int)(hp:List AObj)(g:R.σ):Does Tryd.prog R 87 [.int .i64 x] hp g (.ret (.bool (oY x))) hp g:=by
 refine bN (fun R g=>?_) (by exact⟨trivial,trivial⟩) R hp g
 refine spW (nt:=9) (rs:=[.tmp 2]) (k0:=0) ?_
 refine vcR [] (lkL [(0,[0]),(1,[2])]) (fun _=>[]) (fun (Q:AEx->St R.σ->Prop)=>Q AEx.ret (St.mk [(2,AV.bool (bif decide (x<1) then true else decide (x > 3)))] [] g)) (?_)
 refine(av (aX _ _ rfl trivial rfl rfl rfl) (AN krf))
theorem tf (R:Res)(p:Prg)(v:KL Int)(hl:(v.l.length:Int)=p.atoms/\p.atoms<1000000)(hv:∀x,x∈v.l->1<=x/\x<=3)(hp:List AObj)(g:R.σ):Does Tryd.prog R 36 [aw p,ah v] hp g (.ret (.bool true)) hp g:=by
 refine bN (fun R g=>?_) (by exact⟨⟨⟨trivial,trivial⟩,trivial⟩,trivial,trivial⟩) R hp g
 have hany:v.l.any oY=false:=by
  rw[List.any_eq_false]
  intro x hx
  have:=hv x hx
  unfold oY
  rw[decide_eq_false omg,decide_eq_false omg]
  decide
 refine spW (nt:=15) (rs:=[.tmp 4]) (k0:=0) ?_
 refine vcR [] (lkL [(0,[1,2]),(1,[4])]) (lkL [(1,[(7,ROrc.kcall (AV.bool false))])]) (fun Q=>(fun (u1:AObj)=>1<=2/\(((v.l.length:Int)==p.atoms)=true->true=true/\Does Tryd.prog R 86 [ah v,fn 87 0 (fun (x:Nat)=>any) 0 fun x=>any] [u1] g (ret (AV.bool false)) [u1] g)/\Q AEx.ret (St.mk [(4,AV.bool (bif (v.l.length:Int)==p.atoms then true else false))] [u1] g)) (cO 2 (nth [i6 p.atoms,ae p.rules]))) ⟨omg,(fun hgd=>⟨rfl,(jJ hany (Ac _ _ _ _ _ _ _ _ _ _ omg krf (fun r _=>(Ad _ _ _ _))))⟩),?_⟩
 refine(av (bE _ _ rfl trivial trivial rfl) (AN ?_))
 show(AV.bool (bif (↑(List.length v.l):Int)==p.atoms then true else false))=_
 rw[hl.1,beq_self_eq_true]
 rfl
def fe (v:Nat->Int)(l:List Stp):Nat->Int:=l.foldl ba v
def iS (p:Prg)(v:Nat->Int)(l:List Stp):Prop:=∀i,i<l.length->l.getD i default=aj p (fe v (l.take i))/\aS p (fe v (l.take i))=true
theorem tg {p:Prg}:∀(k:Nat) (v:Nat->Int) (l:List Stp),∃ext,cI p k v l=(l++ext,fe v ext)/\iS p v ext
 |0,v,l=>⟨[],by rw[List.append_nil];rfl,fun i hi=>absurd hi (Nat.not_lt_zero i)⟩
 |k+1,v,l=>by
  by_cases hb:aS p v=true
  ·obtain⟨ext,h1,h2⟩:=tg k (ba v (aj p v)) (l++[aj p v])
   refine⟨aj p v::ext,?_,fun i hi=>?_⟩
   ·show(if aS p v then cI p k (ba v (aj p v)) (l++[aj p v]) else(l,v))=_
    rw[if_pos hb,h1,List.append_assoc]
    rfl
   ·cases i with
    |zero=>exact⟨rfl,hb⟩
    |succ i=>exact h2 i (by simpa using hi)
  ·refine⟨[],?_,fun i hi=>absurd hi (Nat.not_lt_zero i)⟩
   show(if aS p v then cI p k (ba v (aj p v)) (l++[aj p v]) else(l,v))=_
   rw[if_neg hb,List.append_nil]
   rfl
theorem th (p:Prg):(am p).2=fe (fun _=>3) (am p).1/\iS p (fun _=>3) (am p).1:=by
 obtain⟨ext,h1,h2⟩:=tg (p:=p) 25 (fun _=>3) []
 have h1:am p=(ext,fe (fun _=>3) ext):=h1
 rw[h1]
 exact⟨rfl,h2⟩
def iT (s:Stp):Int:=if s.rule = -1 then 1 else 2
def gq (w:Nat->Int)(x:Int)(l:List Int):Nat->Int:=fun j=>if (j:Int)∈l then x else w j
structure StpFit (p:Prg)(w:Nat->Int)(s:Stp):Prop where
 can:okS p w (cJ s)=true
 new:newS p w (cJ s)=ba w s
 at_:∀a,a∈s.atoms->0<=a/\a<p.atoms/\w a.toNat=3
 inj:∀i j,i<j->j<s.atoms.length->s.atoms.getD i 0≠s.atoms.getD j 0
 upd:ba w s=gq w (iT s) s.atoms
theorem Ae {p:Prg}{w:Nat->Int}(hp:bA p)(hr:∀r,r∈p.rules.l->aE r)(hh:cl p)(hb:aS p w=true):StpFit p w (aj p w):=by
 have hp':1<=p.atoms/\p.atoms<=24:=hp
 by_cases hf:0<=a9 p w
 ·obtain⟨h1,h2,h3,_⟩:=ol hr hf
  have hn:(aj p w).rule ≠ -1:=by omega
  have e:aj p w=⟨a9 p w,[(p.rules.l.getD (a9 p w).toNat default).head]⟩:=if_pos hf
  have hq:=h1
  unfold cH at hq
  simp only[Bool.and_eq_true,beq_iff_eq,decide_eq_true_eq] at hq
  obtain⟨q1,q2,q3,q4,q5⟩:=hq
  have q1:0<=(aj p w).rule/\(aj p w).rule<=(p.rules.l.length:Int)-1:=q1
  have hm:=e8 (l:=p.rules.l) (i:=(aj p w).rule.toNat) omg
  have hrk:=(hr _ hm).2
  have hhd:=hh _ hm
  have hat:(aj p w).atoms=[(p.rules.l.getD (aj p w).rule.toNat default).head]:=by rw[e]
  have q4:w (p.rules.l.getD (aj p w).rule.toNat default).head.toNat=3:=q4
  refine⟨?_,?_,fun a ha=>?_,fun i j hij hj=>?_,?_⟩
  ·unfold okS
   rw[if_neg (show ¬(cJ (aj p w)).rule = -1 from hn)]
   exact h1
  ·unfold newS
   rw[if_neg (show ¬(cJ (aj p w)).rule = -1 from hn),h2]
   rfl
  ·rw[hat,List.mem_singleton] at ha
   subst ha
   exact⟨hrk.1,hhd,q4⟩
  ·rw[hat,List.length_singleton] at hj
   omega
  ·rw[h2]
   funext j
   unfold gq iT
   rw[hat,if_neg hn]
   show(if j=(p.rules.l.getD (aj p w).rule.toNat default).head.toNat then 2 else w j)=_
   by_cases hj:(j:Int)=(p.rules.l.getD (aj p w).rule.toNat default).head
   ·rw[if_pos omg,if_pos (List.mem_singleton.2 hj)]
   ·rw[if_neg omg,if_neg (fun h=>hj (List.mem_singleton.1 h))]
 ·obtain⟨e,h1,h2,h3,h4⟩:=iN hp hf hb
  obtain⟨_,g2,g3⟩:=gj w hp
  have hn:(aj p w).rule = -1:=by rw[e]
  have hat:(aj p w).atoms=bo (gre p w):=by rw[e]
  have hopen:∀a,(gre p w).testBit a=true->a<p.atoms.toNat/\w a=3:=fun a ha=>by
   have:=g2 a ha
   rw[gi,Bool.and_eq_true,decide_eq_true_eq,decide_eq_true_eq] at this
   exact this
  have hmem:∀a,a∈(aj p w).atoms->0<=a/\a<p.atoms/\w a.toNat=3:=fun a ha=>by
   rw[hat] at ha
   obtain⟨a1,a2,a3⟩:=lS.1 ha
   obtain⟨b1,b2⟩:=hopen _ a3
   exact⟨a1,omg,b2⟩
  refine⟨?_,?_,hmem,fun i j hij hj=>?_,?_⟩
  ·unfold okS
   rw[if_pos (show(cJ (aj p w)).rule = -1 from hn)]
   unfold dh
   rw[show cV p w (cJ (aj p w)).atoms.l=true from h1,show dg p w (aH (cJ (aj p w)).atoms.l)=true from h2]
   rfl
  ·unfold newS
   rw[if_pos (show(cJ (aj p w)).rule = -1 from hn),h3]
   rfl
  ·rw[hat] at hj ⊢
   rw[fJ] at hj
   rw[gS,gS]
   have:=sb hij hj
   omega
  ·rw[h3]
   funext j
   unfold gq iT bI
   rw[if_pos hn]
   have hm:=oX (l:=(aj p w).atoms) (fun a ha=>(hmem a ha).1) j
   by_cases hj:(j:Int)∈(aj p w).atoms
   ·rw[if_pos (hm.2 hj),if_pos hj]
   ·rw[if_neg (fun h=>hj (hm.1 h)),if_neg hj]
theorem Af {v:Nat->Int}{l:List Stp}{i:Nat}(h:i<l.length):fe v (l.take (i+1))=ba (fe v (l.take i)) (l.getD i default):=j8 ba v l default h
theorem Ag {p:Prg}{v:Nat->Int}{s:Stp}{l:List Stp}(hc:iS p v (s::l)):iS p (ba v s) l:=fun i hi=>hc (i+1) (by simpa using hi)
theorem Ah {p:Prg}(hp:bA p)(hr:∀r,r∈p.rules.l->aE r)(hh:cl p):((am p).1.length:Int)<=p.atoms:=by
 have h:=om hp hr hh 25 (fun _=>3) []
 have h2:=j5 p (fun _=>3)
 have h3:1<=p.atoms:=hp.1
 have h4:(am p).1.length<=cq p (fun _=>3):=by
  show(cI p 25 (fun _=>3) []).1.length<=_
  simp only[List.length_nil] at h
  omega
 omega
def sound (w v:Nat->Int):Prop:=∀a,w a≠3->w a=v a
theorem tj {w v:Nat->Int}{l:Lit}(h:sound w v)(hl:bc w l≠3):bc v l=bc w l:=km (fun a ha=>(h a ha).symm) hl
theorem Ai {w v:Nat->Int}{r:Rule}(h:sound w v)(hb:cb w r=true):cb v r=true:=me (fun a ha=>(h a ha).symm) hb
theorem mg {p:Prg}{w v:Nat->Int}(hp:bA p)(hr:∀r,r∈p.rules.l->aE r)(hf:Fin2 p v)(h:sound w v){s:Step}(hk:okS p w s=true):sound (newS p w s) v/\∀a,a∈s.atoms.l->0<=a/\a<p.atoms/\newS p w s a.toNat=(if s.rule = -1 then 1 else 2):=by
 unfold okS at hk
 unfold newS
 by_cases hs:s.rule = -1
 ·rw[if_pos hs] at hk
  rw[if_pos hs]
  unfold dh at hk
  rw[Bool.and_eq_true] at hk
  obtain⟨hc,hn⟩:=hk
  unfold cV at hc
  rw[Bool.and_eq_true,List.all_eq_true] at hc
  have hp':1<=p.atoms/\p.atoms<=24:=hp
  have hin:=z9 (p:=p) (n:=p.atoms.toNat) (f:=w) (l:=s.atoms.l) omg (fun i hi=>hc.2 i (List.mem_range.2 hi))
  have hSL:=oX (l:=s.atoms.l) (fun a h=>(hin a h).1)
  have hopen:∀a,(aH s.atoms.l).testBit a=true->a<p.atoms.toNat/\w a=3:=fun a ha=>by
   have:=hin a ((hSL a).1 ha)
   rw[Int.toNat_natCast] at this
   exact⟨omg,this.2.2⟩
  have hblk:∀r,r∈p.rules.l->(aH s.atoms.l).testBit r.head.toNat=true->∃l,l∈r.body.l/\(bc w l=1∨(l.neg=false/\(aH s.atoms.l).testBit l.atom.toNat=true)):=fun r hrm hra=>by
   have hrk:=(hr r hrm).2
   unfold dg at hn
   rw[Bool.not_eq_true',List.any_eq_false] at hn
   have h1:=hn r.head.toNat (Tb.mem_memN.2 ⟨omg,hra⟩)
   have h1:(ofH p.rules.l ((r.head.toNat:Nat):Int)).any (a8 w (aH s.atoms.l))=false:=by simpa using h1
   have h2:=List.any_eq_false.1 h1 r (kh.2 ⟨hrm,omg⟩)
   unfold a8 at h2
   have h2:r.body.l.any (eq w (aH s.atoms.l))=true:=by simpa using h2
   obtain⟨l,hl,h3⟩:=List.any_eq_true.1 h2
   refine⟨l,hl,?_⟩
   unfold eq at h3
   rw[Bool.or_eq_true,beq_iff_eq,Bool.and_eq_true,Bool.not_eq_true'] at h3
   exact h3
  have hno2:∀k a,(∃rk:Nat->Nat,∃N,(∀a,v a=2->rk a<N/\∃r,r∈p.rules.l/\r.head.toNat=a/\cb v r=true/\∀l,l∈r.body.l->l.neg=false->rk l.atom.toNat<rk a)/\rk a<k/\(aH s.atoms.l).testBit a=true/\v a=2)->False:=by
   intro k
   induction k with
   |zero=>rintro a ⟨rk,N,_,h0,_⟩;omega
   |succ k ih=>
    rintro a ⟨rk,N,hrk,hlt,hS,h2⟩
    obtain⟨_,r,b1,b2,b3,b4⟩:=hrk a h2
    obtain⟨l,hl,h5⟩:=hblk r b1 (by rw[b2];exact hS)
    have h6:=gp.1 b3 l hl
    rcases h5 with h5|⟨hneg,hmem⟩
    ·have:=tj h (l:=l) (by rw[h5];decide)
     rw[h5,h6] at this
     cases this
    ·have h7:=(oV hf.dom).1 h6
     rw[hneg] at h7
     have h7:v l.atom.toNat=2:=h7
     exact ih l.atom.toNat ⟨rk,N,hrk,by have:=b4 l hl hneg;omega,hmem,h7⟩
  have hall:∀a,(aH s.atoms.l).testBit a=true->v a=1:=fun a ha=>by
   have hno:∀a,(aH s.atoms.l).testBit a=true->v a≠2:=fun a ha h2=>by
    obtain⟨rk,N,hrk⟩:=hf.yes
    exact hno2 (rk a+1) a ⟨rk,N,hrk,Nat.lt_succ_self _,ha,h2⟩
   rcases hf.dom a with e|e|e
   ·exact e
   ·exact absurd e (hno a ha)
   ·exfalso
    have hu:=hf.unf (fun j=>(aH s.atoms.l).testBit j&&v j==3) (fun r hrm hm=>by
     rw[Bool.and_eq_true,beq_iff_eq] at hm
     obtain⟨l,hl,h5⟩:=hblk r hrm hm.1
     rw[List.any_eq_true]
     refine⟨l,hl,?_⟩
     unfold blk
     rcases h5 with h5|⟨hneg,hmem⟩
     ·rw[tj h (by rw[h5];decide),h5];rfl
     ·rw[hneg]
      dsimp only
      rw[hmem]
      rcases hf.dom l.atom.toNat with e|e|e
      ·have:bc v l=1:=(zV hf.dom).2 (by rw[hneg];exact e)
       rw[this];rfl
      ·exact absurd e (hno _ hmem)
      ·rw[e];simp) (fun j hj=>by
     rw[Bool.and_eq_true,beq_iff_eq] at hj
     exact⟨(hopen j hj.1).1,hj.2⟩) a
    rw[ha,e] at hu
    cases hu
  refine⟨fun a ha=>?_,fun a ha=>?_⟩
  ·unfold bI at ha ⊢
   by_cases hb:(aH s.atoms.l).testBit a=true
   ·rw[if_pos hb];exact(hall a hb).symm
   ·rw[if_neg hb] at ha ⊢;exact h a ha
  ·have:=hin a ha
   refine⟨this.1,omg,?_⟩
   unfold bI
   rw[if_pos ((hSL _).2 (by rw[show((a.toNat:Nat):Int)=a by omega];exact ha)),if_pos hs]
 ·rw[if_neg hs] at hk
  rw[if_neg hs]
  unfold cH at hk
  simp only[Bool.and_eq_true,beq_iff_eq,decide_eq_true_eq] at hk
  obtain⟨k1,k2,k3,k4,k5⟩:=hk
  have hm:=e8 (l:=p.rules.l) (i:=s.rule.toNat) omg
  have hrk:=(hr _ hm).2
  have h2:=hf.fire _ hm (Ai h k5)
  have hrng:=hf.rng _ (show v (p.rules.l.getD s.rule.toNat default).head.toNat≠3 by rw[h2];decide)
  obtain⟨a0,hl⟩:∃a,s.atoms.l=[a]:=List.length_eq_one_iff.1 k2
  rw[hl] at k3
  have k3:a0=(p.rules.l.getD s.rule.toNat default).head:=k3
  refine⟨fun a ha=>?_,fun a ha=>?_⟩
  ·unfold er ck at ha ⊢
   by_cases he:a=(p.rules.l.getD s.rule.toNat default).head.toNat
   ·rw[if_pos he,he];exact h2.symm
   ·rw[if_neg he] at ha ⊢;exact h a ha
  ·rw[hl,List.mem_singleton] at ha
   subst ha
   refine⟨omg,omg,?_⟩
   unfold er ck
   rw[if_pos (by rw[k3]),if_neg hs]
def bf (x:KL Int):AV:=.fz x.k 1 x.l.length (fun i _=>.int .u32 (x.l.getD i 0))
def QU (x:KL Int):Prop:=∀a,a∈x.l->0<=a/\a<4294967296
theorem Aj {p:Prg}{v:Nat->Int}{l:List Step}{s:Step}:bw p v (l++[s])=newS p (bw p v l) s:=by
 unfold bw
 rw[List.foldl_append]
 rfl
theorem tk {p:Prg}{s:Step}:∀{l:List Step} {v:Nat->Int} {i:Nat},cB p l v i = -1->cB p (l++[s]) v i=if okS p (bw p v l) s then -1 else((i+l.length:Nat):Int)
 |[],v,i,_=>rfl
 |t::l,v,i,h=>by
  have h:(if okS p v t then cB p l (newS p v t) (i+1) else(i:Int)) = -1:=h
  show(if okS p v t then cB p (l++[s]) (newS p v t) (i+1) else(i:Int))=if okS p (bw p (newS p v t) l) s then -1 else((i+(l.length+1):Nat):Int)
  by_cases hk:okS p v t=true
  ·rw[if_pos hk] at h ⊢
   rw[tk h]
   rw[show i+1+l.length=i+(l.length+1) by omega]
  ·rw[if_neg hk] at h
   omega
structure AnyOk (p:Prg)(n i:Nat)(v:Nat->Int)(x:List Stp × (Nat->Int)):Prop where
 wr:cB p (x.1.map cJ) (fun _=>3) 0 = -1
 run:bw p (fun _=>3) (x.1.map cJ)=x.2
 snd:sound x.2 v
 len:x.1.length<=i
 at24:∀s,s∈x.1->s.atoms.length<=24
theorem Ak {p:Prg}{w:Nat->Int}{s:Stp}(h0:∀a,a∈s.atoms->0<=a)(hk:okS p w (cJ s)=true):newS p w (cJ s)=gq w (iT s) s.atoms:=by
 funext j
 unfold newS gq iT
 by_cases hs:s.rule = -1
 ·rw[if_pos (show(cJ s).rule = -1 from hs),if_pos hs]
  show(if (aH s.atoms).testBit j then(1:Int) else w j)=_
  have h:=oX (l:=s.atoms) h0 j
  by_cases hj:(aH s.atoms).testBit j=true
  ·rw[if_pos hj,if_pos (h.1 hj)]
  ·rw[if_neg hj,if_neg (fun x=>hj (h.2 x))]
 ·rw[if_neg (show ¬(cJ s).rule = -1 from hs),if_neg hs]
  unfold okS at hk
  rw[if_neg (show ¬(cJ s).rule = -1 from hs)] at hk
  unfold cH at hk
  simp only[Bool.and_eq_true,beq_iff_eq] at hk
  obtain⟨_,h1,h2,_⟩:=hk
  have h1:s.atoms.length=1:=h1
  obtain⟨a,ha⟩:∃a,s.atoms=[a]:=List.length_eq_one_iff.1 h1
  have h2:s.atoms.getD 0 0=(p.rules.l.getD s.rule.toNat default).head:=h2
  show(if j=(p.rules.l.getD s.rule.toNat default).head.toNat then(2:Int) else w j)=_
  have h3:=h0 a (by rw[ha];exact List.mem_singleton.2 rfl)
  rw[<-h2,ha]
  show(if j=a.toNat then(2:Int) else w j)=if (j:Int)∈[a] then 2 else w j
  by_cases hj:(j:Int)=a
  ·rw[if_pos omg,if_pos (List.mem_singleton.2 hj)]
  ·rw[if_neg omg,if_neg (fun x=>hj (List.mem_singleton.1 x))]
theorem Al {P:Program}{R:Res}{o:Oper}{ev:Operand->AV}{hp:List AObj}{g:R.σ}{k:Call}{x y:Operand}{i:IntKind}{a b:Int}
  (ho:o.op=.call k) (hk:k.callee=.builtin .min) (ha:k.args=#[x,y]) (hx:ev x=.int i a) (hy:ev y=.int i b) :
  OpOk P R o ev hp g (.int i (if b<a then b else a)) hp g:=by
 refine⟨fun FM Z w evc okw hop=>?_⟩
 have hdx:=hop x (by simp[ho,Op.operands,Call.operands,ha])
 have hdy:=hop y (by simp[ho,Op.operands,Call.operands,ha])
 rw[hx] at hdx
 rw[hy] at hdy
 have h1:evc x=.int i a:=hdx
 have h2:evc y=.int i b:=hdy
 refine⟨.value (.int i (if b<a then b else a)),w,FM,Z,_,?_,rfl,rfl,okw,AW _ _ _ _ _⟩
 simp[execOp,ho,resolve,hk,ha,invoke,builtin,h1,h2,Builtin.min_,Builtin.min2]
def bef (x y:Nat):Prop:=∃a,x.testBit a=false/\y.testBit a=true/\∀j,j<a->x.testBit j=y.testBit j
structure StOk (p:Prg)(v:Nat->Int)(n most:Nat)(L:List Nat):Prop where
 fix:∀x,x∈L->fol p.rules.l x=x
 bit:∀x,x∈L->∀j,(x.testBit j=true->j<n)/\(j<n->v j=2->x.testBit j=true)/\(v j=1->x.testBit j=false)
 ord:L.Pairwise bef
 all:∀x,fol p.rules.l x=x->(∀j,(x.testBit j=true->j<n)/\(j<n->v j=2->x.testBit j=true)/\(v j=1->x.testBit j=false))->x∈L∨L.length=most
 len:L.length<=most
def cn (S:Nat)(v:Nat->Int):Nat->Int:=fun a=>if S.testBit a then v a else 3
def fM (p:Prg)(S:Nat):Prop:=∀r,r∈p.rules.l->S.testBit r.head.toNat=true->∀l,l∈r.body.l->S.testBit l.atom.toNat=true
structure Mod (p q:Prg)(S:Nat):Prop where
 pa:bA p
 pr:∀r,r∈p.rules.l->aE r
 ph:cl p
 qa:bA q
 qr:∀r,r∈q.rules.l->aE r
 qh:cl q
 at_:p.atoms=q.atoms
 pc:fM p S
 qc:fM q S
 s:∀r,S.testBit r.head.toNat=true->(r∈p.rules.l↔r∈q.rules.l)
theorem Mod.symm {p q:Prg}{S:Nat}(h:Mod p q S):Mod q p S:=⟨h.qa,h.qr,h.qh,h.pa,h.pr,h.ph,h.at_.symm,h.qc,h.pc,fun r hr=>(h.s r hr).symm⟩
theorem oZ {S:Nat}{v:Nat->Int}{l:Lit}(h:S.testBit l.atom.toNat=true):bc (cn S v) l=bc v l:=by
 unfold bc cn
 rw[if_pos h]
theorem Am {p:Prg}{S:Nat}{v:Nat->Int}{r:Rule}(hc:fM p S)(hr:r∈p.rules.l)(h:S.testBit r.head.toNat=true):cb (cn S v) r=cb v r:=by
 rw[Bool.eq_iff_iff,gp,gp]
 exact⟨fun h1 l hl=>by rw[<-oZ (hc r hr h l hl)];exact h1 l hl,fun h1 l hl=>by rw[oZ (hc r hr h l hl)];exact h1 l hl⟩
theorem An {S g:Nat}:aO S (bo g)=bo (g&&&S):=by
 unfold aO bo ak
 rw[List.filter_map]
 congr 1
 show List.filter _ ((List.range 24).filter _)=(List.range 24).filter _
 rw[List.filter_filter]
 refine List.filter_congr fun j _=>?_
 show(S.testBit ((j:Int)).toNat&&g.testBit j)=(g&&&S).testBit j
 rw[Nat.testBit_and,Int.toNat_natCast,Bool.and_comm]
theorem tm {p q:Prg}{S:Nat}(hm:Mod p q S){v:Nat->Int}(hb:aS p v=true){k:Int}(hk:0<=(aj p v).rule->S.testBit (p.rules.l.getD (aj p v).rule.toNat default).head.toNat=true->0<=k/\k<q.rules.l.length/\q.rules.l.getD k.toNat default=p.rules.l.getD (aj p v).rule.toNat default)(hk1:(aj p v).rule<0->k = -1){t:Step}(ht:t.rule=k)(hta:t.atoms.l=aO S (aj p v).atoms) :
  (aO S (aj p v).atoms=[]->cn S (ba v (aj p v))=cn S v)/\(aO S (aj p v).atoms≠[]->okS q (cn S v) t=true/\newS q (cn S v) t=cn S (ba v (aj p v))):=by
 by_cases hf:0<=a9 p v
 ·obtain⟨i,i1,i2,i3,_⟩:=gk (cX v) default p.rules.l 0 hf
  have hfi:a9 p v=i:=by unfold a9;rw[i2];simp
  have hn:aj p v=⟨a9 p v,[(p.rules.l.getD (a9 p v).toNat default).head]⟩:=if_pos hf
  rw[hn] at hk hk1 hta ⊢
  simp only at hk hk1 hta ⊢
  rw[hfi,Int.toNat_natCast] at hk hta ⊢
  obtain⟨r,hr⟩:∃r,p.rules.l.getD i default=r:=⟨_,rfl⟩
  have hrm:r∈p.rules.l:=hr▸bx p.rules.l default i1
  have hrk:=(hm.pr r hrm).2
  rw[hr] at hk hta i3 ⊢
  have hi3:(v r.head.toNat==3&&cb v r)=true:=i3
  rw[Bool.and_eq_true,beq_iff_eq] at hi3
  have hkeep:aO S [r.head]=if S.testBit r.head.toNat then[r.head] else[]:=by
   unfold aO
   cases h:S.testBit r.head.toNat <;> simp[h]
  have haf:ba v ⟨(i:Int),[r.head]⟩=ck v r.head.toNat 2:=by
   unfold ba
   rw[if_neg (show ¬(i:Int) = -1 by omega)]
   rfl
  rw[hkeep] at hta ⊢
  rw[haf]
  by_cases hs:S.testBit r.head.toNat=true
  ·rw[if_pos hs] at hta ⊢
   refine⟨fun h=>(by cases h),fun _=>?_⟩
   obtain⟨k1,k2,k3⟩:=hk omg hs
   have hne:¬t.rule = -1:=by omega
   have hcv:cn S v r.head.toNat=v r.head.toNat:=if_pos hs
   constructor
   ·unfold okS
    rw[if_neg hne]
    unfold cH
    rw[hta,ht,k3,hcv,hi3.1,Am hm.pc hrm hs,hi3.2,decide_eq_true (show 0<=k/\k<=(q.rules.l.length:Int)-1 by omega)]
    show(true&&(true&&((r.head==r.head)&&(true&&true))))=true
    rw[beq_self_eq_true]
    rfl
   ·unfold newS
    rw[if_neg hne]
    unfold er
    rw[ht,k3]
    funext b
    show(if b=r.head.toNat then(2:Int) else if S.testBit b then v b else 3)=if S.testBit b then(if b=r.head.toNat then 2 else v b) else 3
    by_cases hbb:b=r.head.toNat
    ·rw[if_pos hbb,if_pos (by rw[hbb];exact hs),if_pos hbb]
    ·rw[if_neg hbb,if_neg hbb]
  ·rw[if_neg hs] at hta ⊢
   refine⟨fun _=>?_,fun h=>absurd rfl h⟩
   funext b
   unfold cn ck
   by_cases hbs:S.testBit b=true
   ·rw[if_pos hbs,if_pos hbs,if_neg (fun e=>by rw[e] at hbs;exact hs hbs)]
   ·rw[if_neg hbs,if_neg hbs]
 ·obtain⟨n1,n2,n3,n4⟩:=iN hm.pa hf hb
  obtain⟨g1,g2,g3⟩:=gj v hm.pa
  have g4:=oi v hm.pa
  rw[n1] at n4 hk hk1 hta ⊢
  simp only at n4 hk1 hta ⊢
  have hk':=hk1 dcd
  rw[iM g3] at n4
  obtain⟨G,hG⟩:∃G,gre p v=G:=⟨_,rfl⟩
  rw[hG] at n4 hta g2 g3 g4 ⊢
  rw[n4.1]
  rw[An] at hta ⊢
  have hGS:G&&&S<2^24:=Nat.lt_of_le_of_lt Nat.and_le_left g3
  have hcut:cn S (bI v G)=bI (cn S v) (G&&&S):=funext fun b=>by
   show(if S.testBit b then(if G.testBit b then(1:Int) else v b) else 3)=if (G&&&S).testBit b then 1 else if S.testBit b then v b else 3
   rw[Nat.testBit_and]
   cases G.testBit b <;> cases S.testBit b <;> simp
  rw[hcut]
  have hz:bo (G&&&S)=[]↔G&&&S=0:=by
   constructor
   ·intro h
    refine Nat.eq_of_testBit_eq fun j=>?_
    rw[Nat.zero_testBit]
    cases hj:(G&&&S).testBit j with
    |false=>rfl
    |true=>
     have hj24:j<24:=by
      have hx:=g2 j (by rw[Nat.testBit_and,Bool.and_eq_true] at hj;exact hj.1)
      rw[gi,Bool.and_eq_true,decide_eq_true_eq] at hx
      have:=hm.pa.2
      omega
     have:=oT.2 ⟨hj24,hj⟩
     rw[h] at this
     cases this
   ·intro h
    rw[h]
    rfl
  constructor
  ·intro h
   rw[hz.1 h]
   funext b
   unfold bI
   rw[Nat.zero_testBit]
   rfl
  ·intro h
   have h0:G&&&S≠0:=fun e=>h (hz.2 e)
   have hr1:t.rule = -1:=by omega
   constructor
   ·unfold okS
    rw[if_pos hr1]
    unfold dh
    rw[hta,Bool.and_eq_true]
    refine⟨sc hm.qa h0 hGS (fun j hj=>?_),?_⟩
    ·rw[Nat.testBit_and,Bool.and_eq_true] at hj
     have hx:=g2 j hj.1
     rw[gi,Bool.and_eq_true,decide_eq_true_eq,decide_eq_true_eq] at hx ⊢
     refine⟨by rw[<-hm.at_];exact hx.1,?_⟩
     unfold cn
     rw[if_pos hj.2]
     exact hx.2
    ·rw[iM hGS]
     unfold dg at g4 ⊢
     rw[Bool.not_eq_true',List.any_eq_false] at g4 ⊢
     intro a ha
     obtain⟨a1,a2⟩:=Tb.mem_memN.1 ha
     rw[Nat.testBit_and,Bool.and_eq_true] at a2
     have h1:=g4 a (Tb.mem_memN.2 ⟨a1,a2.1⟩)
     have h1:(ofH p.rules.l (a:Int)).any (a8 v G)=false:=by simpa using h1
     rw[List.any_eq_false] at h1
     have:(ofH q.rules.l (a:Int)).any (a8 (cn S v) (G&&&S))=false:=by
      rw[List.any_eq_false]
      intro r hr
      obtain⟨r1,r2⟩:=kh.1 hr
      have hra:r.head.toNat=a:=by omega
      have hS:S.testBit r.head.toNat=true:=by rw[hra];exact a2.2
      have rp:=(hm.s r hS).2 r1
      have h2:=h1 r (kh.2 ⟨rp,r2⟩)
      unfold a8 at h2 ⊢
      have h2:r.body.l.any (eq v G)=true:=by simpa using h2
      have:r.body.l.any (eq (cn S v) (G&&&S))=true:=by
       obtain⟨l,hl,h3⟩:=List.any_eq_true.1 h2
       refine List.any_eq_true.2 ⟨l,hl,?_⟩
       have hlS:=hm.pc r rp hS l hl
       unfold eq at h3 ⊢
       rw[oZ hlS,Nat.testBit_and,hlS,Bool.and_true]
       exact h3
      rw[this]
      simp
     simpa using this
   ·unfold newS
    rw[if_pos hr1,hta,iM hGS]
theorem tn {p q:Prg}{S:Nat}(hm:Mod p q S):∀(l:List Stp) (v:Nat->Int),iS p v l->sound (cn S v) (am q).2->sound (cn S (fe v l)) (am q).2
 |[],v,_,h=>h
 |s::l,v,hc,h=>by
  obtain⟨c1,c2⟩:=hc 0 (Nat.zero_lt_succ _)
  have c1:s=aj p v:=c1
  have c2:aS p v=true:=c2
  refine tn hm l (ba v s) (Ag hc) ?_
  rw[c1]
  have hfit:=Ae (w:=v) hm.pa hm.pr hm.ph c2
  obtain⟨k,hk,hk1⟩:∃k:Int,(0<=(aj p v).rule->S.testBit (p.rules.l.getD (aj p v).rule.toNat default).head.toNat=true->0<=k/\k<q.rules.l.length/\q.rules.l.getD k.toNat default=p.rules.l.getD (aj p v).rule.toNat default)/\((aj p v).rule<0->k = -1):=by
   by_cases h0:0<=(aj p v).rule
   ·by_cases hS:S.testBit (p.rules.l.getD (aj p v).rule.toNat default).head.toNat=true
    ·have hlt:=(oJ (v:=v) hm.pa hm.pr hm.ph c2).1 h0
     have hmem:=bx (i:=(aj p v).rule.toNat) p.rules.l default omg
     obtain⟨i,hi,e⟩:=List.getElem_of_mem ((hm.s _ hS).1 hmem)
     exact⟨i,fun _ _=>⟨omg,omg,by rw[Int.toNat_natCast,List.getD_eq_getElem?_getD,List.getElem?_eq_getElem hi];exact e⟩,fun h=>omg⟩
    ·exact⟨0,fun _ h=>absurd h hS,fun h=>omg⟩
   ·exact⟨-1,fun h=>absurd h h0,fun _=>rfl⟩
  have hx:=tm hm c2 hk hk1 (t:=⟨k,aO S (aj p v).atoms,.auto⟩) rfl rfl
  by_cases he:aO S (aj p v).atoms=[]
  ·rw[hx.1 he]
   exact h
  ·obtain⟨x1,x2⟩:=hx.2 he
   rw[<-x2]
   exact(mg hm.qa hm.qr (oW hm.qa hm.qr hm.qh) h x1).1
theorem tp {p q:Prg}{S:Nat}(hm:Mod p q S){a:Nat}(ha:S.testBit a=true)(h:(am p).2 a≠3):(am p).2 a=(am q).2 a:=by
 obtain⟨h1,h2⟩:=th p
 have h3:=tn hm _ _ h2 (fun b hb=>absurd (by unfold cn;split <;> rfl) hb)
 rw[<-h1] at h3
 have h4:=h3 a
 unfold cn at h4
 rw[if_pos ha] at h4
 exact h4 h
theorem mh {p q:Prg}{S:Nat}(hm:Mod p q S){a:Nat}(ha:S.testBit a=true):(am p).2 a=(am q).2 a:=by
 by_cases h:(am p).2 a=3
 ·by_cases h':(am q).2 a=3
  ·rw[h,h']
  ·exact(tp hm.symm ha h').symm
 ·exact tp hm ha h
theorem tq {p:Prg}(hr:∀r,r∈p.rules.l->aE r){a:Nat}(ha:a<24):fM p (hgP p a):=fun r hrm h l hl=>by
 have h1:=(dj hr ha).1 h
 have hrk:=(hr r hrm).2
 exact(dj hr ha).2 (h1.trans (.step ⟨r,hrm,omg,l,hl,rfl⟩ (.refl _)))
theorem o8 {on:Nat}:∀{l:List Rule} {i j:Nat},j<(aF on l).length->∃k:Nat,(aT on l i).getD j 0=((i+k:Nat):Int)/\k<l.length/\l.getD k default=(aF on l).getD j default
 |[],i,j,h=>absurd h (Nat.not_lt_zero _)
 |r::l,i,j,h=>by
  unfold aT
  by_cases hr:on.testBit r.head.toNat=true
  ·have e:aF on (r::l)=r::aF on l:=by unfold aF;rw[List.filter_cons,if_pos hr]
   rw[e] at h ⊢
   rw[if_pos hr]
   cases j with
   |zero=>exact⟨0,rfl,Nat.zero_lt_succ _,rfl⟩
   |succ j=>
    obtain⟨k,h1,h2,h3⟩:=o8 (on:=on) (l:=l) (i:=i+1) (j:=j) (by simpa using h)
    exact⟨k+1,by rw[show i+(k+1)=i+1+k by omega];exact h1,Nat.succ_lt_succ h2,h3⟩
  ·have e:aF on (r::l)=aF on l:=by unfold aF;rw[List.filter_cons,if_neg hr]
   rw[e] at h ⊢
   rw[if_neg hr]
   obtain⟨k,h1,h2,h3⟩:=o8 (on:=on) (l:=l) (i:=i+1) (j:=j) h
   exact⟨k+1,by rw[show i+(k+1)=i+1+k by omega];exact h1,Nat.succ_lt_succ h2,h3⟩
theorem mi {p:Prg}{S:Nat}(hp:bA p)(hr:∀r,r∈p.rules.l->aE r)(hh:cl p)(hc:fM p S):Mod (ar p S) p S:=by
 have hm:∀r,r∈(ar p S).rules.l->r∈p.rules.l:=fun r h=>(List.mem_filter.1 h).1
 exact⟨hp,fun r h=>hr r (hm r h),fun r h=>hh r (hm r h),hp,hr,hh,rfl,fun r h=>hc r (hm r h),hc,fun r hS=>⟨hm r,fun h=>List.mem_filter.2 ⟨h,hS⟩⟩⟩
theorem Ao {on:Nat}{l:List Stp}{i:Nat}:aR on l (i+1)=if 0<(aO on (l.getD i default).atoms).length then aR on l i++[i] else aR on l i:=by
 unfold aR
 rw[List.range_succ,List.filter_append]
 by_cases h:0<(aO on (l.getD i default).atoms).length
 ·rw[if_pos h,List.filter_cons_of_pos (by exact decide_eq_true h)]
  rfl
 ·rw[if_neg h,List.filter_cons_of_neg (by simpa using h),List.filter_nil,List.append_nil]
def kn (on:Nat)(nums:List Int)(s:Stp):Step:=⟨dS nums s,aO on s.atoms,.opn⟩
theorem tr {p:Prg}{S:Nat}(hp:bA p)(hr:∀r,r∈p.rules.l->aE r)(hh:cl p)(hc:fM p S){L:List Stp}(hL:iS (ar p S) (fun _=>3) L):∀i,i<=L.length ->
  cB p ((aR S L i).map fun k=>kn S (aT S p.rules.l 0) (L.getD k default)) (fun _=>3) 0 = -1/\bw p (fun _=>3) ((aR S L i).map fun k=>kn S (aT S p.rules.l 0) (L.getD k default))=cn S (fe (fun _=>3) (L.take i))
 |0,_=>⟨rfl,funext fun a=>by
   show(3:Int)=if S.testBit a then 3 else 3
   split <;> rfl⟩
 |i+1,h=>by
  obtain⟨h1,h2⟩:=tr hp hr hh hc hL i omg
  have hm:=mi hp hr hh hc
  obtain⟨c1,c2⟩:=hL i omg
  rw[Ao,Af omg]
  obtain⟨v,hv⟩:∃v,fe (fun _=>3) (L.take i)=v:=⟨_,rfl⟩
  rw[hv] at c1 c2 h2 ⊢
  have hs:ba v (L.getD i default)=ba v (aj (ar p S) v):=by rw[c1]
  rw[hs]
  have hkk:(0<=(aj (ar p S) v).rule->S.testBit ((ar p S).rules.l.getD (aj (ar p S) v).rule.toNat default).head.toNat=true->0<=dS (aT S p.rules.l 0) (aj (ar p S) v)/\dS (aT S p.rules.l 0) (aj (ar p S) v)<p.rules.l.length/\p.rules.l.getD (dS (aT S p.rules.l 0) (aj (ar p S) v)).toNat default=(ar p S).rules.l.getD (aj (ar p S) v).rule.toNat default):=fun h0 _=>by
   have hlt:=(oJ (v:=v) hm.pa hm.pr hm.ph c2).1 h0
   obtain⟨k,k1,k2,k3⟩:=o8 (on:=S) (l:=p.rules.l) (i:=0) (j:=(aj (ar p S) v).rule.toNat) (by
    have hlt:(aj (ar p S) v).rule<((aF S p.rules.l).length:Int):=hlt
    omega)
   unfold dS
   rw[if_pos h0,k1,Nat.zero_add]
   exact⟨omg,omg,by rw[Int.toNat_natCast];exact k3⟩
  have hk1:(aj (ar p S) v).rule<0->dS (aT S p.rules.l 0) (aj (ar p S) v) = -1:=fun h0=>by
   unfold dS
   rw[if_neg omg]
   by_cases hf:0<=a9 (ar p S) v
   ·rw[show aj (ar p S) v=_ from if_pos hf] at h0
    simp only at h0
    omega
   ·rw[show aj (ar p S) v=_ from if_neg hf]
  have hx:=tm hm c2 hkk hk1 (t:=kn S (aT S p.rules.l 0) (aj (ar p S) v)) rfl rfl
  rw[c1]
  by_cases he:0<(aO S (aj (ar p S) v).atoms).length
  ·rw[if_pos he,List.map_append]
   obtain⟨x1,x2⟩:=hx.2 (fun e=>by rw[e] at he;exact absurd he (Nat.lt_irrefl 0))
   show cB p (_++[kn S _ (L.getD i default)]) _ 0 = -1/\bw p _ (_++[kn S _ (L.getD i default)])=_
   rw[tk h1,Aj,h2,c1,if_pos x1]
   exact⟨rfl,x2⟩
  ·rw[if_neg he,hx.1 (List.eq_nil_of_length_eq_zero omg)]
   exact⟨h1,h2⟩
theorem Ap {p:Prg}{S:Nat}(hp:bA p)(hr:∀r,r∈p.rules.l->aE r)(hh:cl p)(hc:fM p S) :
  cB p (cu S (aT S p.rules.l 0) (am (ar p S)).1).l (fun _=>3) 0 = -1/\bw p (fun _=>3) (cu S (aT S p.rules.l 0) (am (ar p S)).1).l=cn S (am (ar p S)).2/\((cu S (aT S p.rules.l 0) (am (ar p S)).1).l.length:Int)<=p.atoms:=by
 obtain⟨d1,d2⟩:=th (ar p S)
 have hm:=mi hp hr hh hc
 have h:=tr hp hr hh hc d2 (am (ar p S)).1.length (Nat.le_refl _)
 rw[List.take_length,<-d1] at h
 refine⟨h.1,h.2,?_⟩
 have h2:=Ah hm.pa hm.pr hm.ph
 have h3:(cu S (aT S p.rules.l 0) (am (ar p S)).1).l.length<=(am (ar p S)).1.length:=by
  unfold cu
  rw[List.length_map]
  unfold aR
  exact Nat.le_trans (List.length_filter_le _ _) (by rw[List.length_range];exact Nat.le_refl _)
 have h2:((am (ar p S)).1.length:Int)<=p.atoms:=h2
 omega
theorem tt {p:Prg}:∀{l:List Step} {v:Nat->Int} {i j:Nat},cB p l v i = -1->j<l.length->okS p (bw p v (l.take j)) (l.getD j default)=true
 |[],_,_,_,_,h=>absurd h (Nat.not_lt_zero _)
 |s::l,v,i,j,h,hj=>by
  have h:(if okS p v s then cB p l (newS p v s) (i+1) else(i:Int)) = -1:=h
  by_cases hk:okS p v s=true
  ·rw[if_pos hk] at h
   cases j with
   |zero=>exact hk
   |succ j=>
    show okS p (bw p (newS p v s) (l.take j)) (l.getD j default)=true
    exact tt (l:=l) h (by simpa using hj)
  ·rw[if_neg hk] at h
   omega
def esI (D:List (Int × Int)):List (Value × AV):=D.map fun e=>(.int .i64 e.1,.int .i64 e.2)
def bg (k x:Int):List (Int × Int)->List (Int × Int)
 |[]=>[(k,x)]
 |e::r=>if e.1=k then(k,x)::r else e::bg k x r
def cC (k:Int):List (Int × Int)->Int
 |[]=>0
 |e::r=>if e.1=k then e.2 else cC k r
theorem mj {k x a:Int}:∀{D:List (Int × Int)},cC a (bg k x D)=if a=k then x else cC a D
 |[]=>by
  show(if k=a then x else 0)=_
  by_cases h:a=k
  ·rw[if_pos h,if_pos h.symm]
  ·rw[if_neg h,if_neg (fun e=>h e.symm)]
   rfl
 |e::r=>by
  show cC a (if e.1=k then(k,x)::r else e::bg k x r)=if a=k then x else(if e.1=a then e.2 else cC a r)
  by_cases h:e.1=k
  ·rw[if_pos h]
   show(if k=a then x else cC a r)=_
   by_cases h2:a=k
   ·rw[if_pos h2,if_pos h2.symm]
   ·rw[if_neg h2,if_neg (fun e=>h2 e.symm),if_neg (fun e'=>h2 (by rw[<-e',h]))]
  ·rw[if_neg h]
   show(if e.1=a then e.2 else cC a (bg k x r))=_
   rw[mj]
   by_cases h2:a=k
   ·rw[if_pos h2,if_pos h2,if_neg (fun e'=>h (by rw[e',h2]))]
   ·rw[if_neg h2,if_neg h2]
theorem iU {k x:Int}:∀{D:List (Int × Int)} {e:Int × Int},e∈bg k x D->e.1=k∨e∈D
 |[],e,h=>.inl (by rw[List.mem_singleton.1 h])
 |d::r,e,h=>by
  have h:e∈(if d.1=k then(k,x)::r else d::bg k x r):=h
  split at h
  ·rcases List.mem_cons.1 h with h|h
   ·exact .inl (by rw[h])
   ·exact .inr (List.mem_cons_of_mem _ h)
  ·rcases List.mem_cons.1 h with h|h
   ·exact .inr (by rw[h];exact List.mem_cons_self)
   ·exact(iU h).imp id (List.mem_cons_of_mem _)
theorem ko {k x:Int}:∀{D:List (Int × Int)},(D.map (·.1)).Nodup->((bg k x D).map (·.1)).Nodup
 |[],_=>by simp[bg]
 |d::r,h=>by
  obtain⟨h1,h2⟩:=List.nodup_cons.1 h
  show((if d.1=k then(k,x)::r else d::bg k x r).map (·.1)).Nodup
  split
  ·rename_i e
   rw[List.map_cons]
   exact List.nodup_cons.2 ⟨by rw[<-e];exact h1,h2⟩
  ·rename_i e
   rw[List.map_cons]
   refine List.nodup_cons.2 ⟨fun hm=>?_,ko h2⟩
   obtain⟨y,hy,e2⟩:=List.mem_map.1 hm
   rcases iU hy with h3|h3
   ·exact e (e2.symm.trans h3)
   ·exact h1 (List.mem_map.2 ⟨y,h3,e2⟩)
theorem tu {k x:Int}:∀{D:List (Int × Int)},(∀e∈D,e.1≠k)->bg k x D=D++[(k,x)]
 |[],_=>rfl
 |d::r,h=>by
  show(if d.1=k then(k,x)::r else d::bg k x r)=_
  rw[if_neg (h d List.mem_cons_self),tu (fun e he=>h e (List.mem_cons_of_mem _ he))]
  rfl
theorem tv {k x:Int}:∀{D:List (Int × Int)},(D.map (·.1)).Nodup->(∃e∈D,e.1=k)->(bg k x D).length=D.length/\∀(i:Nat) (a b:Int),(bg k x D)[i]? = some (a,b)->(a=k/\b=x/\∃b0,D[i]? = some (a,b0))∨(a≠k/\D[i]? = some (a,b))
 |[],_,h=>by obtain⟨e,he,_⟩:=h;cases he
 |d::r,hn,h=>by
  obtain⟨h1,h2⟩:=List.nodup_cons.1 hn
  show(if d.1=k then(k,x)::r else d::bg k x r).length=_/\∀(i:Nat) (a b:Int),(if d.1=k then(k,x)::r else d::bg k x r)[i]? = some (a,b)->_
  by_cases e:d.1=k
  ·rw[if_pos e]
   refine⟨rfl,fun i a b hi=>?_⟩
   cases i with
   |zero=>
    cases hi
    exact .inl ⟨rfl,rfl,d.2,by rw[<-e];rfl⟩
   |succ i=>
    have hi:r[i]? = some (a,b):=hi
    refine .inr ⟨fun ea=>h1 ?_,hi⟩
    show d.1∈r.map (·.1)
    rw[e,<-ea]
    exact List.mem_map.2 ⟨(a,b),List.mem_of_getElem? hi,rfl⟩
  ·rw[if_neg e]
   obtain⟨y,hy,ey⟩:=h
   have hy:y∈r:=(List.mem_cons.1 hy).resolve_left (fun h=>e (by rw[<-h];exact ey))
   obtain⟨q1,q2⟩:=tv h2 ⟨y,hy,ey⟩
   refine⟨by rw[List.length_cons,List.length_cons,q1],fun i a b hi=>?_⟩
   cases i with
   |zero=>
    have hi:d=(a,b):=by simpa using hi
    exact .inr ⟨by rw[hi] at e;exact e,by rw[hi];rfl⟩
   |succ i=>exact q2 i a b hi
theorem o9 {k x:Int}{D:List (Int × Int)}(hn:(D.map (·.1)).Nodup):MapPut (esI D) (esI (bg k x D)) (.int .i64 k) (.int .i64 x) where
 new h:=by
  unfold esI
  rw[tu (fun e he h1=>h _ (List.mem_map.2 ⟨e,he,rfl⟩) (by rw[h1])),List.map_append]
  rfl
 set h:=by
  obtain⟨e,he,hk⟩:=h
  obtain⟨y,hy,rfl⟩:=List.mem_map.1 he
  have hk:y.1=k:=by cases hk;rfl
  obtain⟨q1,q2⟩:=tv (x:=x) hn ⟨y,hy,hk⟩
  refine⟨by unfold esI;rw[List.length_map,List.length_map,q1],fun i a b hi=>?_⟩
  unfold esI at hi ⊢
  rw[List.getElem?_map] at hi
  cases hp:(bg k x D)[i]? with
  |none=>rw[hp] at hi;cases hi
  |some z=>
   rw[hp] at hi
   cases hi
   rcases q2 i z.1 z.2 hp with⟨a1,a2,b0,a3⟩|⟨a1,a2⟩
   ·exact .inl ⟨by rw[a1],by rw[a2],.int .i64 b0,by rw[List.getElem?_map,a3];rfl⟩
   ·exact .inr ⟨fun e=>a1 (by cases e;rfl),by rw[List.getElem?_map,a2];rfl⟩
 inj i j a b b' hi hj:=by
  unfold esI at hi hj
  rw[List.getElem?_map] at hi hj
  cases h1:D[i]? with
  |none=>rw[h1] at hi;cases hi
  |some y=>
   cases h2:D[j]? with
   |none=>rw[h2] at hj;cases hj
   |some z=>
    rw[h1] at hi
    rw[h2] at hj
    cases hi
    have e:z.1=y.1:=(Value.int.inj (congrArg Prod.fst (Option.some.inj hj))).2
    have l1:=(List.getElem?_eq_some_iff.1 h1).1
    have l2:=(List.getElem?_eq_some_iff.1 h2).1
    have:=(List.getElem_inj (i:=i) (j:=j) (h₀:=by rw[List.length_map];exact l1) (h₁:=by rw[List.length_map];exact l2) hn).1 (by
     rw[List.getElem_map,List.getElem_map]
     have e1:=(List.getElem?_eq_some_iff.1 h1).2
     have e2:=(List.getElem?_eq_some_iff.1 h2).2
     rw[e1,e2,e])
    exact this
theorem tw {k:Int}:∀{D:List (Int × Int)},(D.map (·.1)).Nodup->∀e∈D,e.1=k->e.2=cC k D
 |[],_,e,h,_=>by cases h
 |d::r,hn,e,h,hk=>by
  obtain⟨h1,h2⟩:=List.nodup_cons.1 hn
  show e.2=if d.1=k then d.2 else cC k r
  rcases List.mem_cons.1 h with h|h
  ·rw[if_pos (by rw[<-h];exact hk),h]
  ·rw[if_neg (fun e2=>h1 (List.mem_map.2 ⟨e,h,show e.1=d.1 from hk.trans e2.symm⟩))]
   exact tw h2 e h hk
theorem tx {k:Int}:∀{D:List (Int × Int)},(∀e∈D,e.1≠k)->cC k D=0
 |[],_=>rfl
 |d::r,h=>by
  show(if d.1=k then d.2 else cC k r)=0
  rw[if_neg (h d List.mem_cons_self)]
  exact tx fun e he=>h e (List.mem_cons_of_mem _ he)
theorem Aq {f:Nat->Nat}{D:List (Int × Int)}:(esI D).map (fun e=>(e.1,aI f e.2))=esI D:=by
 unfold esI
 rw[List.map_map]
 rfl
def iV (w:Nat->Int)(a:Nat):Int:=if w a=3 then 0 else w a
theorem Ar {l:List Int}{c:Int}:l.any (eqZ c)=decide (c∈l):=by
 rw[Bool.eq_iff_iff,List.any_eq_true,decide_eq_true_eq]
 unfold eqZ
 constructor
 ·rintro ⟨x,hx,h⟩
  have h:c=x:=by simpa using h
  rw[h]
  exact hx
 ·intro h
  exact⟨c,h,by simp⟩
structure MapI (w:Nat->Int)(x:Int)(l:List Int)(D:List (Int × Int)):Prop where
 nd:(D.map (·.1)).Nodup
 rng:∀e,e∈D->0<=e.1/\e.1<24
 val:∀a:Nat,cC a D=if (a:Int)∈l then x else iV w a
theorem MapI.put {w:Nat->Int}{x y a:Int}{l l':List Int}{D:List (Int × Int)}(h:MapI w x l D)(ha:0<=a/\a<24)(hl:∀c,c∈l'↔c∈l∨c=a)(hy:∀c,c∈l->x=y):MapI w y l' (bg a y D) where
 nd:=ko h.nd
 rng e he:=(iU he).elim (fun e1=>by rw[e1];exact ha) (h.rng e)
 val c:=by
  rw[mj,h.val]
  by_cases h1:(c:Int)=a
  ·rw[if_pos h1,if_pos ((hl _).2 (.inr h1))]
  ·rw[if_neg h1]
   by_cases h2:(c:Int)∈l
   ·rw[if_pos h2,if_pos ((hl _).2 (.inl h2)),hy _ h2]
   ·rw[if_neg h2,if_neg (fun h3=>((hl _).1 h3).elim h2 h1)]
theorem MapI.put2 {w:Nat->Int}{x z a:Int}{l l':List Int}{D:List (Int × Int)}(h:MapI w x l D)(ha:0<=a/\a<24)(hl:∀c,c∈l'↔c∈l∨c=a):MapI w x l' (bg a x (bg a z D)) where
 nd:=ko (ko h.nd)
 rng e he:=(iU he).elim (fun e1=>by rw[e1];exact ha) fun he=>(iU he).elim (fun e1=>by rw[e1];exact ha) (h.rng e)
 val c:=by
  rw[mj,mj,h.val]
  by_cases h1:(c:Int)=a
  ·rw[if_pos h1,if_pos ((hl _).2 (.inr h1))]
  ·rw[if_neg h1,if_neg h1]
   by_cases h2:(c:Int)∈l
   ·rw[if_pos h2,if_pos ((hl _).2 (.inl h2))]
   ·rw[if_neg h2,if_neg (fun h3=>((hl _).1 h3).elim h2 h1)]
theorem As {P:Program}{R:Res}{o:Oper}{ev:Operand->AV}{hp:List AObj}{g:R.σ}{k:Call}{x y:Operand}{i:IntKind}{a b:Int}
  (ho:o.op=.call k) (hk:k.callee=.builtin .max) (ha:k.args=#[x,y]) (hx:ev x=.int i a) (hy:ev y=.int i b) :
  OpOk P R o ev hp g (.int i (if a<b then b else a)) hp g:=by
 refine⟨fun FM Z w evc okw hop=>?_⟩
 have hdx:=hop x (by simp[ho,Op.operands,Call.operands,ha])
 have hdy:=hop y (by simp[ho,Op.operands,Call.operands,ha])
 rw[hx] at hdx
 rw[hy] at hdy
 have h1:evc x=.int i a:=hdx
 have h2:evc y=.int i b:=hdy
 refine⟨.value (.int i (if a<b then b else a)),w,FM,Z,_,?_,rfl,rfl,okw,AW _ _ _ _ _⟩
 simp[execOp,ho,resolve,hk,ha,invoke,builtin,h1,h2,Builtin.max_,Builtin.max2]
structure QOk (p:Prg)(S i:Nat)(Q:List Rule):Prop where
 sub:∀r,r∈Q->r∈p.rules.l
 has:∀j,j<i->S.testBit (p.rules.l.getD j default).head.toNat=true->p.rules.l.getD j default∈Q
 len:Q.length<=i
theorem QOk.take {p:Prg}{S i:Nat}{Q:List Rule}(h:QOk p S i Q)(hi:i<p.rules.l.length):QOk p S (i+1) (Q++[p.rules.l.getD i default]) where
 sub r hr:=(List.mem_append.1 hr).elim (h.sub r) fun h1=>by rw[List.mem_singleton.1 h1];exact bx p.rules.l default hi
 has j hj hs:=by
  rcases Nat.lt_or_ge j i with h1|h1
  ·exact List.mem_append.2 (.inl (h.has j h1 hs))
  ·have:j=i:=by omega
   subst this
   exact List.mem_append.2 (.inr (List.mem_singleton.2 rfl))
 len:=by
  rw[List.length_append,List.length_singleton]
  have:=h.len
  omega
theorem QOk.leave {p:Prg}{S i:Nat}{Q:List Rule}(h:QOk p S i Q)(hs:S.testBit (p.rules.l.getD i default).head.toNat=false):QOk p S (i+1) Q where
 sub:=h.sub
 has j hj hs2:=by
  rcases Nat.lt_or_ge j i with h1|h1
  ·exact h.has j h1 hs2
  ·have:j=i:=by omega
   subst this
   rw[hs] at hs2
   cases hs2
 len:=Nat.le_succ_of_le h.len
structure QN (p:Prg)(S m:Nat)(Q:List Rule):Prop where
 al:∀r,r∈Q->dF p.atoms r=true/\(r∈p.rules.l∨S.testBit r.head.toNat=false)
 has:∀r,r∈p.rules.l->S.testBit r.head.toNat=true->r∈Q
 len:Q.length<=m
theorem QN.more {p:Prg}{S m:Nat}{Q:List Rule}{r:Rule}(h:QN p S m Q)(hr:dF p.atoms r=true)(hs:S.testBit r.head.toNat=false):QN p S (m+1) (Q++[r]) where
 al q hq:=(List.mem_append.1 hq).elim (h.al q) fun h1=>by rw[List.mem_singleton.1 h1];exact⟨hr,.inr hs⟩
 has q hq h2:=List.mem_append.2 (.inl (h.has q hq h2))
 len:=by
  rw[List.length_append,List.length_singleton]
  have:=h.len
  omega
theorem At {Q:List Rule}{hp:List AObj}{k m o:Nat}(ho:ag hp o=cO (Q.length*2) (aJ Q))(hk:k<=o):aB hp k m (.ow true o Q.length 2) (ae ⟨Q,.auto⟩):=
 (aB.ow ho hk (Nat.le_refl _) dcd (fun j _=>AU (f7 _ _))).le (AT rfl (fun i j hi hj=>by
  show aJ _ (i*2+j)=br _ j
  unfold aJ
  rw[show(i*2+j)/2=i by omega,show(i*2+j)%2=j by omega]))
def ff (p:Prg)(k:Nat):Int:=(IntKind.i64.wrap (IntKind.u32.wrap ((k:Int).tdiv 2))).tmod p.atoms
theorem Au {p:Prg}{n k:Nat}(hn:p.atoms=n)(hk:k<2^32)(h:0<n):0<=ff p k/\ff p k<p.atoms:=by
 unfold ff
 have e:(k:Int).tdiv 2=((k/2:Nat):Int):=rfl
 rw[e,IntWalk.u32_in _ omg,IntWalk.i64_in _ omg,hn]
 have e2:((k/2:Nat):Int).tmod (n:Int)=((k/2%n:Nat):Int):=rfl
 have:=Nat.mod_lt (k/2) h
 rw[e2]
 omega
theorem tz {p:Prg}{v:Nat->Int}(hp:bA p)(hr:∀r,r∈p.rules.l->aE r)(hf:Fin2 p v):∀{l:List Step} {w:Nat->Int} {i:Nat},cB p l w i = -1->sound w v->∀j,sound (bw p w (l.take j)) v
 |[],_,_,_,h,j=>by rw[List.take_nil];exact h
 |s::l,w,i,hw,h,0=>h
 |s::l,w,i,hw,h,j+1=>by
  have hw:(if okS p w s then cB p l (newS p w s) (i+1) else(i:Int)) = -1:=hw
  by_cases hk:okS p w s=true
  ·rw[if_pos hk] at hw
   exact tz hp hr hf hw (mg hp hr hf h hk).1 j
  ·rw[if_neg hk] at hw
   omega
theorem MapI.fin {p:Prg}{w:Nat->Int}{s:Step}{D:List (Int × Int)}(h:MapI w (if s.rule = -1 then 1 else 2) s.atoms.l D)(h0:∀a,a∈s.atoms.l->0<=a)(hk:okS p w s=true):MapI (newS p w s) 0 [] D where
 nd:=h.nd
 rng:=h.rng
 val a:=by
  have hk':okS p w (cJ ⟨s.rule,s.atoms.l⟩)=true:=hk
  have e:newS p w s=gq w (iT ⟨s.rule,s.atoms.l⟩) s.atoms.l:=Ak h0 hk'
  rw[h.val,e]
  show(if (a:Int)∈s.atoms.l then(if s.rule = -1 then(1:Int) else 2) else iV w a)=iV (gq w (if s.rule = -1 then 1 else 2) s.atoms.l) a
  unfold iV gq
  by_cases hm:(a:Int)∈s.atoms.l
  ·rw[if_pos hm,if_pos hm]
   by_cases hs:s.rule = -1
   ·rw[if_pos hs];rfl
   ·rw[if_neg hs];rfl
  ·rw[if_neg hm,if_neg hm]
theorem ml {D:List (Int × Int)}(h:∀e,e∈D->0<=e.1/\e.1<24){e:Value × AV}(he:e∈esI D):∃k,Go.keyOf Tryd.prog 3 e.1=some k:=by
 obtain⟨y,hy,rfl⟩:=List.mem_map.1 he
 exact gh (h y hy)
theorem Av {l:List Int}{i:Nat}(h:i<l.length)(c:Int):c∈l.take (i+1)↔c∈l.take i∨c=l.getD i 0:=by
 rw[List.take_add_one,List.mem_append,List.getElem?_eq_getElem h,List.getD_eq_getElem?_getD,List.getElem?_eq_getElem h]
 simp
theorem Aw {S n:Nat}(hn:n<=24)(h:∀j,S.testBit j=true->j<n):(bo S).length<=n:=by
 rw[fJ]
 have h1:(ak S).length<=((List.range 24).filter fun j=>decide (j<n)).length:=lU fun a _ ha=>decide_eq_true (h a ha)
 have h2:∀k,k<25->((List.range 24).filter fun j=>decide (j<k)).length=k:=by decide +kernel
 rw[h2 n omg] at h1
 exact h1
theorem Ax {on:Nat}{nums:List Int}{l:List Stp}{i:Nat}(h:∀s,s∈l->s.atoms.length<=24):((cu on nums l).l.getD i default).atoms.l.length<=24:=by
 rw[List.getD_eq_getElem?_getD]
 cases hg:(cu on nums l).l[i]? with
 |none=>exact Nat.zero_le _
 |some s=>
  obtain⟨k,hk,rfl⟩:=List.mem_map.1 (List.mem_of_getElem? hg)
  have hkl:=List.mem_range.1 (List.mem_filter.1 hk).1
  exact Nat.le_trans (List.length_filter_le _ _) (h _ (bx l default hkl))
theorem Ay (R:Res)[Tab LT R](p:Prg)(m:Int)(b:KL Int)(hm:0<=m/\m<256)(hq:QU b)(hbl:b.l.length<=9223372036854775807)(g:R.σ):Does Tryd.prog R 9 [aw p,.int .u8 m,bf b] [] g (.ret (.bool true)) [] g:=by
 have hroom:aN=140737488355328:=rfl
 by_cases hfi:ep p=true/\aD p=true
 rotate_left
 ·have hF:∀(R:Res) (hp:List AObj) (g:R.σ),Does Tryd.prog R 35 [aw p] hp g (.ret (.bool false)) hp g:=fun R hp g=>by
   have h:=rF R p hp g
   rw[show(ep p&&aD p)=false by
    cases h1:ep p <;> cases h2:aD p <;> first|rfl|exact absurd ⟨h1,h2⟩ hfi] at h
   exact h
  refine spW (nt:=289) (rs:=[.tmp 6]) (k0:=0) ?_
  refine vcR [[1,0,1,1]] (lkL [(0,[1,2,3]),(1,[1,2,3,40]),(2,[6])]) (lkL [(1,[(1,ROrc.pcall (AV.bool false))]),(2,[(0,ROrc.kcall (AV.bool true))])]) (fun Q=>(fun (u1:List AObj)=>2<=2/\(∀(hp:List AObj) (g:R.σ),true=true/\Does Tryd.prog R 35 [aw p] hp g (ret (AV.bool false)) hp g)/\(true=true->(true=true/\Does Tryd.prog R 15 [] u1 g (ret (AV.bool true)) u1 g)/\Q AEx.ret (St.mk [(6,AV.bool true)] u1 g))/\(true=false->WpC Tryd.prog R 289 0 9 [1,0,1,1] Q [Kont.seq [1,1]] (St.mk [(1,int IntKind.u8 m),(2,bf b),(3,ref 0 0),(40,AV.bool true)] u1 g))) ([cO 2 (nth [i6 p.atoms,ae p.rules])])) ⟨omg,(fun _ _=>⟨rfl,(hF _ _ _)⟩),fun _=>⟨⟨rfl,(doT (T:=LT) [] 1 (fun R _ g=>s9 R g))⟩,?_⟩,fun h=>(nomatch h)⟩
  refine(av (bE _ _ rfl trivial trivial rfl) (AM _))
 obtain⟨hsm,hb⟩:=hfi
 obtain⟨hl,hr,hp,hh,hx⟩:=eK hb
 have hp':1<=p.atoms/\p.atoms<=24:=hp
 obtain⟨n,hn⟩:∃n,p.atoms.toNat=n:=⟨_,rfl⟩
 have hpa:p.atoms=n:=by omega
 have hfin:=oW hp hr hh
 have hF:∀(R:Res) (hp:List AObj) (g:R.σ),Does Tryd.prog R 35 [aw p] hp g (.ret (.bool true)) hp g:=fun R hp g=>by
  have h:=rF R p hp g
  rw[hsm,hb] at h
  exact h
 have hD:=fun (R:Res) [Tab LT R] (g:R.σ)=>oA R p hb g
 have hVl:(cK p (am p).2).l.length=n:=by unfold cK;simp[hn]
 have hVg:∀j,j<n->(cK p (am p).2).l.getD j 0=(am p).2 j:=fun j hj=>by
  unfold cK
  rw[List.getD_eq_getElem?_getD,List.getElem?_map,List.getElem?_range omg]
  rfl
 obtain⟨V,hV⟩:∃V,cK p (am p).2=V:=⟨_,rfl⟩
 obtain⟨v,hv⟩:∃v,(am p).2=v:=⟨_,rfl⟩
 simp only[hV] at hD
 rw[hV] at hVl
 simp only[hV] at hVg
 simp only[hv] at hVg
 rw[hv] at hfin
 have hFo:∀(R:Res) (hp:List AObj) (g:R.σ),Does Tryd.prog R 36 [aw p,ah V] hp g (.ret (.bool true)) hp g:=fun R hp g=>tf R p V omg (fun x hx=>by
  obtain⟨j,hj,rfl⟩:=List.getElem_of_mem hx
  have e:V.l[j]=V.l.getD j 0:=by rw[List.getD_eq_getElem?_getD,List.getElem?_eq_getElem hj];rfl
  rw[e,hVg j omg]
  rcases hfin.dom j with e|e|e <;> omega) hp g
 -- the goal, and what it hangs on
 obtain⟨G,hG,hGn⟩:∃G:Nat,(IntKind.i64.wrap m).tmod p.atoms=G/\G<n:=by
  rw[IntWalk.i64_in _ omg,hpa]
  obtain⟨k,rfl⟩:∃k:Nat,m=k:=⟨m.toNat,omg⟩
  exact⟨k%n,rfl,Nat.mod_lt _ omg⟩
 obtain⟨S,hS⟩:∃S,hgP p G=S:=⟨_,rfl⟩
 have hSc:fM p S:=hS▸tq hr omg
 have hSn:∀j,S.testBit j=true->j<n:=fun j hj=>by
  rw[<-hS] at hj
  rcases sB hx ((dj hr omg).1 hj) with e|e
  ·omega
  ·omega
 have hSG:S.testBit G=true:=hS▸(dj hr omg).2 (.refl _)
 have hpm:=mi hp hr hh hSc
 obtain⟨x,hxv⟩:∃x,(am (ar p S)).2 G=x:=⟨_,rfl⟩
 have hxG:x=v G:=by rw[<-hxv,<-hv];exact mh hpm hSG
 obtain⟨ha1,ha2,ha3⟩:=Ap hp hr hh hSc
 obtain⟨A,hA⟩:∃A,cu S (aT S p.rules.l 0) (am (ar p S)).1=A:=⟨_,rfl⟩
 rw[hA] at ha1 ha2 ha3
 have hR:∀(R:Res) [Tab LT R] (g:R.σ),Does Tryd.prog R 30 [aw p,.int .i64 G] [] g (.ret (.tup 2 (nth [ah (ai S),.int .i64 0]))) [] g:=fun R _ g=>by
  have h:=yD R p G hb omg g
  rw[Int.toNat_natCast,hS] at h
  exact h
 have hAn:∀(R:Res) [Tab LT R] (g:R.σ),Does Tryd.prog R 25 [aw p,.int .i64 G] [] g (.ret (.tup 3 (nth [.int .i64 x,ax A,.int .i64 0]))) [] g:=fun R _ g=>by
  have h:=oL R p G hb omg g
  rw[Int.toNat_natCast,hS,hxv,hA] at h
  exact h
 have hA24:∀i,(A.l.getD i default).atoms.l.length<=24:=fun i=>by
  rw[<-hA]
  exact Ax fun s hs=>(oK hpm.pa hpm.pr hpm.ph 25 _ [] (fun s h=>by cases h) s hs).2.2.1
 have hok:=fun j (hj:j<A.l.length)=>tt ha1 hj
 have hVe:∀(R:Res) [Tab LT R] (g:R.σ),Does Tryd.prog R 23 [aw p,ax A] [] g (.ret (.tup 2 (nth [.int .i64 0,.int .i64 0]))) [] g:=fun R _ g=>by
  have h:=z8 R p A hb omg (fun i=>by have:=hA24 i;omega) g
  rw[ha1] at h
  exact h
 have hSl:(ai S).l.length<=n:=Aw omg hSn
 refine spW (nt:=289) (rs:=[.tmp 6]) (k0:=0) ?_
 refine vcR [[1,1,1],[1,0,1,0]] (lkL [(0,[1,2,3]),(1,[1,2,3,40]),(3,[2,3,7])]) (lkL [(1,[(1,ROrc.pcall (AV.bool true))])]) (fun Q=>(fun (u1:AObj)=>2<=2/\(∀(hp:List AObj) (g:R.σ),true=true/\Does Tryd.prog R 35 [aw p] hp g (ret (AV.bool true)) hp g)/\(false=true->WpC Tryd.prog R 289 0 9 [1,0,1,0] Q [Kont.seq [1,1]] (St.mk [(1,int IntKind.u8 m),(2,bf b),(3,ref 0 0),(40,AV.bool false)] [u1] g))/\(false=false->1<=2/\p.atoms≠0/\WpC Tryd.prog R 289 0 9 [1,1,1] Q [] (St.mk [(2,bf b),(3,ref 0 0),(7,i6 (Int.tmod (IntKind.wrap i64 m) p.atoms))] [u1] g))) (cO 2 (nth [i6 p.atoms,ae p.rules]))) ⟨omg,(fun _ _=>⟨rfl,(hF _ _ _)⟩),fun h=>(nomatch h),fun _=>⟨omg,omg,?_⟩⟩
 rw[hG]
 refine vcR [] (lkL [(4,[2,3,7,9,10]),(5,[2,3,7,9,10,11,12]),(6,[2,3,7,9,10,11,12,13,14,15]),(7,[2,3,7,9,10,11,12,13,14,15,16,17]),(8,[2,3,7,9,11,13,14,117]),(9,[6]),(10,[2,3,7,9,11,13,14,18]),(11,[2,3,7,9,11,13,18,119,120,121])]) (lkL [(4,[(1,ROrc.kcall (tup 3 (nth [fz Fz.auto 2 (List.length (bv (am p).fst).l) fun (i:Nat)=>eF (List.getD (bv (am p).fst).l i default),fz V.2 1 (List.length V.l) fun (i x:Nat)=>af V.l i,i6 0])))]),(5,[(2,ROrc.kcall (tup 2 (nth [fz Fz.auto 1 (List.length (ai S).l) fun (i x:Nat)=>af (ai S).l i,i6 0])))]),(6,[(2,ROrc.kcall (tup 3 (nth [i6 x,ax A,i6 0])))]),(7,[(2,ROrc.kcall (tup 2 (nth [i6 0,i6 0])))]),(8,[(21,ROrc.pcall (AV.bool true))]),(10,[(0,ROrc.new (AV.mp 1) (AObj.mapo []))])]) (fun Q=>(fun (u1:AObj)=>(fun (u2:Bool)=>(fun (u3:AV)=>(fun (u4:AV)=>(fun (u5:AV)=>(fun (u6:Int)=>2<=2/\(true=true/\Does Tryd.prog R 17 [aw p] [u1] g (ret (tup 3 (nth [fz Fz.auto 2 (List.length (bv (am p).fst).l) fun i=>eF (List.getD (bv (am p).fst).l i default),u3,i6 0]))) [u1] g)/\2<=2/\(true=true/\Does Tryd.prog R 30 [aw p,u5] [u1] g (ret (tup 2 (nth [u4,i6 0]))) [u1] g)/\2<=2/\(true=true/\Does Tryd.prog R 25 [aw p,u5] [u1] g (ret (tup 3 (nth [i6 x,ax A,i6 0]))) [u1] g)/\2<=2/\(true=true/\Does Tryd.prog R 23 [aw p,ax A] [u1] g (ret (tup 2 (nth [i6 0,i6 0]))) [u1] g)/\(true=true->2<=2)/\(true=true->∀(hp:List AObj) (g:R.σ),true=true/\Does Tryd.prog R 36 [aw p,u3] hp g (ret (AV.bool true)) hp g)/\(true=true->0<=(↑G:Int)/\(↑G:Int)<(↑(List.length V.l):Int))/\(true=true->1<=1)/\((!bif false then true else x != List.getD V.l G 0)=true->1<=2)/\((!bif bif false then true else x != List.getD V.l G 0 then true else decide (u6 > p.atoms))=true->1<=2)/\(u2=true->Q AEx.ret (St.mk [(6,AV.bool false)] [u1] g))/\(u2=false->OpOk Tryd.prog R (Oper.mk (some 118) (Op.makeMap 69 none) 69 "outright.go:139" #[] none) (evO [] [(2,bf b),(3,ref 0 0),(7,u5),(9,u3),(11,u4),(13,i6 x),(14,ax A),(117,AV.bool u2)] []) [u1] g (AV.mp 1) [u1,AObj.mapo []] g/\WpC Tryd.prog R 289 0 9 [1,1,1,1,1,1,1,1,1,0,1,0] Q [Kont.blk 0,Kont.seq [1,1,1,1,1,1,1,1,1,1]] (St.mk [(2,bf b),(3,ref 0 0),(7,u5),(9,u3),(11,u4),(13,i6 x),(18,AV.mp 1),(119,ax A),(120,i6 u6),(121,i6 0)] [u1,AObj.mapo []] g))) ((↑(List.length A.l):Int))) (i6 (↑G:Int))) (fz Fz.auto 1 (List.length (ai S).l) fun i x=>af (ai S).l i)) (fz V.2 1 (List.length V.l) fun i x=>af V.l i)) (bif bif bif false then true else x != List.getD V.l G 0 then true else decide ((↑(List.length A.l):Int) > p.atoms) then true else decide ((↑(List.length (ai S).l):Int) > p.atoms))) (cO 2 (nth [i6 p.atoms,ae p.rules]))) ⟨omg,⟨rfl,(doT (T:=LT) [] 1 (fun R _ g=>hD R g))⟩,omg,⟨rfl,(doT (T:=LT) [] 1 (fun R _ g=>hR R g))⟩,omg,⟨rfl,(doT (T:=LT) [] 1 (fun R _ g=>hAn R g))⟩,omg,⟨rfl,(doT (T:=LT) [] 1 (fun R _ g=>hVe R g))⟩,omg,(fun hgd=>(fun _ _=>⟨rfl,(hFo _ _ _)⟩)),omg,omg,omg,omg,fun c1=>have c1:((false=true∨¬x=List.getD V.l G 0)∨(↑(List.length A.l):Int) > p.atoms)∨(↑(List.length (ai S).l):Int) > p.atoms:=((ek c1).imp (fun h=>((ek h).imp (fun h=>((ek h).imp (fun h=>h) (fun h=>(bne_iff_ne.mp h)))) (fun h=>(of_decide_eq_true h)))) (fun h=>(of_decide_eq_true h)));?_,fun c1=>have c1:((false=false/\x=List.getD V.l G 0)/\¬(↑(List.length A.l):Int) > p.atoms)/\¬(↑(List.length (ai S).l):Int) > p.atoms:=⟨⟨⟨(bQ (bQ (bQ c1).1).1).1,(bne_eq_false_iff_eq.mp (bQ (bQ (bQ c1).1).1).2)⟩,(of_decide_eq_false (bQ (bQ c1).1).2)⟩,(of_decide_eq_false (bQ c1).2)⟩;⟨?_,?_⟩⟩
 ·exfalso
  rcases c1 with((h|h)|h)|h
  ·cases h
  ·rw[hVg G hGn] at h
   exact h hxG
  ·omega
  ·omega
 ·exact qY rfl
 refine(bi krf (fun (y:Nat × List (Int × Int))=>⟨[(2,bf b),(3,ref 0 0),(7,i6 (G:Int)),(9,fz V.2 1 (V.l.length) fun (i x:Nat)=>af V.l i),(11,fz Fz.auto 1 ((ai S).l.length) fun (i x:Nat)=>af (ai S).l i),(13,i6 x),(18,AV.mp 1),(119,ax A),(120,i6 (A.l.length:Int)),(121,.int .i64 y.1)],[cO 2 (nth [.int .i64 p.atoms,ae p.rules]),.mapo (esI y.2)],g⟩) (fun (y:Nat × List (Int × Int))=>(y.1<=A.l.length/\MapI (bw p (fun _=>3) (A.l.take y.1)) 0 [] y.2)) (fun (y:Nat × List (Int × Int))=>(A.l.length-y.1)) ((0,[]):Nat × List (Int × Int)) (aY ⟨AM _,AM _,AM _,AM _,AM _,AM _,AM _,AM _,AM _,(AN krf),trivial⟩ rfl rfl) ?_ (fun y hi=>?_))
 ·exact⟨Nat.zero_le _,.nil,fun e he=>(by cases he),fun a=>rfl⟩
 ·obtain⟨j,D⟩:=y
  obtain⟨hj,hD⟩:=hi
  simp only at hj hD
  rcases Nat.lt_or_ge j A.l.length with hlt|hge
  ·have hkj:=hok j hlt
   have hcl:decide ((j:Int)<(A.l.length:Int))=true:=decide_eq_true omg
   obtain⟨w,hw⟩:∃w,bw p (fun _=>3) (A.l.take j)=w:=⟨_,rfl⟩
   have hsw:=tz hp hr hfin ha1 (fun _ h=>absurd rfl h) j
   rw[hw] at hkj hD hsw
   obtain⟨s,hs⟩:∃s,A.l.getD j default=s:=⟨_,rfl⟩
   rw[hs] at hkj
   have hs24:s.atoms.l.length<=24:=hs▸hA24 j
   refine vcR [[1,1,1,1,1,1,1,1,1,0,1,0,0,1,0,1]] (lkL [(12,[2,3,7,9,11,13,18,119,120,121,122]),(13,[2,3,7,9,11,13,18,20,119,120,121]),(14,[2,3,7,9,11,13,18,20,119,120,121,126,127,128])]) (lkL [(13,[(3,ROrc.val (Orc.obj (nth [i6 (List.getD A.l j default).rule,fz (List.getD A.l j default).atoms.2 1 (List.length (List.getD A.l j default).atoms.l) fun (i x:Nat)=>af (List.getD A.l j default).atoms.l i])))])]) (fun Q=>(fun (u1:AV)=>(fun (u2:Int)=>(fun (u3:Int)=>(fun (u4:List AV)=>(fun (u5:AV)=>(fun (u6:AV)=>(fun (u7:AObj)=>(decide (u3<u2)=true->(0<=u3/\u3<u2)/\2<=2/\2<=2/\(∀(c:Nat),c<2->nth u4 c=ao (nth [i6 0,fz Fz.nil 0 0 fun x x_2=>any]) 0 2 (List.brecOn (motive:=fun (x:List AV)=>Nat->AV) u4 nth._f) c)/\2<=2/\WpC Tryd.prog R 289 0 9 [1,1,1,1,1,1,1,1,1,0,1,0,0,1,1,0,0,1,1,0] Q [Kont.blk 2,Kont.blk 1,Kont.seq [1,1,1,1,1,1,1,1,1,0,1,0,0,1,1,1]] (St.mk [(2,bf b),(3,ref 0 0),(7,i6 (↑G:Int)),(9,u6),(11,u5),(13,i6 x),(18,AV.mp 1),(20,ref 2 0),(119,ax A),(120,i6 u2),(121,i6 u3),(126,u1),(127,i6 (↑(List.length (List.getD A.l j default).atoms.l):Int)),(128,i6 0)] [u7,AObj.mapo (esI D),cO 2 (nth u4)] g))/\(decide (u3<u2)=false->WpC Tryd.prog R 289 0 9 [1,1,1,1,1,1,1,1,1,0,1,0,0,1,0,1] Q [Kont.seq [1,1,1,1,1,1,1,1,1,0,1,0,0,1,1]] (St.mk [(2,bf b),(3,ref 0 0),(7,i6 (↑G:Int)),(9,u6),(11,u5),(13,i6 x),(18,AV.mp 1),(119,ax A),(120,i6 u2),(121,i6 u3),(122,AV.bool (decide (u3<u2)))] [u7,AObj.mapo (esI D)] g))) (cO 2 (nth [i6 p.atoms,ae p.rules]))) (fz V.2 1 (List.length V.l) fun i x=>af V.l i)) (fz Fz.auto 1 (List.length (ai S).l) fun i x=>af (ai S).l i)) ([i6 (List.getD A.l j default).rule,u1])) ((↑j:Int))) ((↑(List.length A.l):Int))) (fz (List.getD A.l j default).atoms.2 1 (List.length (List.getD A.l j default).atoms.l) fun i x=>af (List.getD A.l j default).atoms.l i)) ⟨fun _=>⟨omg,omg,omg,(fun c hc=>match c,hc with|0,_=>krf|1,_=>krf ),omg,?_⟩,fun hcc=>(nomatch (hcl.symm.trans hcc))⟩
   rw[hs]
   refine(bi krf (fun (z:Nat × List (Int × Int))=>⟨[(2,bf b),(3,ref 0 0),(7,i6 (G:Int)),(9,fz V.2 1 (V.l.length) fun (i x:Nat)=>af V.l i),(11,fz Fz.auto 1 ((ai S).l.length) fun (i x:Nat)=>af (ai S).l i),(13,i6 x),(18,AV.mp 1),(20,ref 2 0),(119,ax A),(120,i6 (A.l.length:Int)),(121,i6 (j:Int)),(126,fz s.atoms.2 1 (s.atoms.l.length) fun (i x:Nat)=>af s.atoms.l i),(127,i6 (s.atoms.l.length:Int)),(128,.int .i64 z.1)],[cO 2 (nth [.int .i64 p.atoms,ae p.rules]),.mapo (esI z.2),cO 2 (nth [.int .i64 s.rule,ah s.atoms])],g⟩) (fun (z:Nat × List (Int × Int))=>(z.1<=s.atoms.l.length/\MapI w (if s.rule = -1 then 1 else 2) (s.atoms.l.take z.1) z.2)) (fun (z:Nat × List (Int × Int))=>(s.atoms.l.length-z.1)) ((0,D):Nat × List (Int × Int)) (aY ⟨AM _,AM _,AM _,AM _,AM _,AM _,AM _,AM _,AM _,AM _,AM _,AM _,AM _,(AN krf),trivial⟩ rfl rfl) ?_ (fun z hi=>?_))
   ·exact⟨Nat.zero_le _,hD.nd,hD.rng,fun a=>hD.val a⟩
   ·obtain⟨i,D'⟩:=z
    obtain⟨hi1,hi2⟩:=hi
    simp only at hi1 hi2
    rcases Nat.lt_or_ge i s.atoms.l.length with hlt2|hge2
    ·obtain⟨a,ha⟩:∃a,s.atoms.l.getD i 0=a:=⟨_,rfl⟩
     have ha24:0<=a/\a<24:=by
      have:=((mg hp hr hfin (w:=w) (v:=v) hsw hkj).2 a (ha▸bx s.atoms.l 0 hlt2))
      omega
     have hmt:=Av hlt2
     rw[ha] at hmt
     have hcl2:decide ((i:Int)<(s.atoms.l.length:Int))=true:=decide_eq_true omg
     by_cases hsr:s.rule = -1
     ·rw[if_pos hsr] at hi2
      have hn2:((bg a 2 D').map (·.1)).Nodup:=ko hi2.nd
      have hr2:∀e,e∈bg a 2 D'->0<=e.1/\e.1<24:=fun e he=>(iU he).elim (fun e1=>by rw[e1];exact ha24) (hi2.rng e)
      have hcr:(s.rule == -1)=true:=by rw[hsr];rfl
      refine vcR [[1,1,1,1,1,1,1,1,1,0,1,0,0,1,1,0,0,1,1,0,0,1,1,0,0,1,1,1,1],[1,1,1,1,1,1,1,1,1,0,1,0,0,1,1,0,0,1,1,0,0,1,0,1]] (lkL [(15,[2,3,7,9,11,13,18,20,119,120,121,126,127,128,129]),(16,[2,3,7,9,11,13,18,20,22,119,120,121,126,127,128]),(17,[2,3,7,9,11,13,18,20,22,119,120,121,126,127,128]),(18,[2,3,7,9,11,13,18,20,22,119,120,121,126,127,128,136]),(19,[2,3,7,9,11,13,18,20,119,120,121,126,127,128]),(20,[2,3,7,9,11,13,18,20,119,120,121,126,127,128])]) (lkL [(17,[(2,ROrc.own any [cO 2 (nth [i6 p.atoms,ae p.rules]),AObj.mapo (esI (bg a 2 D')),cO 2 (nth [i6 s.rule,ah s.atoms])] g)]),(19,[(2,ROrc.own any [cO 2 (nth [i6 p.atoms,ae p.rules]),AObj.mapo (esI (bg a 1 (bg a 2 D'))),cO 2 (nth [i6 s.rule,ah s.atoms])] g)])]) (fun Q=>(fun (u1:AV)=>(fun (u2:List (Nat × AV))=>(fun (u3:AObj)=>(fun (u4:Int)=>(fun (u5:List AObj)=>(fun (u6:Nat × AV)=>(fun (u7:Int)=>(fun (u8:Nat × AV)=>(fun (u9:Array Edge)=>(fun (u10:Nat × AV)=>(fun (u11:List AObj)=>(decide (u7<u4)=true->(0<=u7/\u7<u4)/\1<=1/\OpOk Tryd.prog R (Oper.mk none (Op.mapUpdate 69 (Operand.tmp 132) (Operand.tmp 133) (Operand.const (Value.int i64 2))) 0 "outright.go:142" u9 none) (evO [Row.mk (some 133) none (af s.atoms.l i) false (some []) [],Row.mk (some 132) none (AV.mp 1) false (some []) []] [(2,bf b),(3,ref 0 0),(7,i6 (↑G:Int)),u8,u6,(13,i6 x),(18,AV.mp 1),(20,ref 2 0),(22,af s.atoms.l i),(119,ax A),u10,(121,i6 (↑j:Int)),(126,u1),(127,i6 u4),(128,i6 u7)] []) (u3::AObj.mapo (esI D')::u5) g any u11 g/\1<=2/\((s.rule == -1)=true->OpOk Tryd.prog R (Oper.mk none (Op.mapUpdate 69 (Operand.tmp 137) (Operand.tmp 138) (Operand.const (Value.int i64 1))) 0 "outright.go:144" u9 none) (evO [Row.mk (some 138) none (af s.atoms.l i) false (some []) [],Row.mk (some 137) none (AV.mp 1) false (some []) []] u2 []) u11 g any (u3::AObj.mapo (esI (bg a 1 (bg a 2 D')))::u5) g/\(-9223372036854775808<=u7+1/\u7+1<=9223372036854775807)/\Q AEx.normal (St.mk [(2,bf b),(3,ref 0 0),(7,i6 (↑G:Int)),u8,u6,(13,i6 x),(18,AV.mp 1),(20,ref 2 0),(119,ax A),u10,(121,i6 (↑j:Int)),(126,u1),(127,i6 u4),(128,i6 (u7+1))] (u3::AObj.mapo (esI (bg a 1 (bg a 2 D')))::u5) g))/\((s.rule == -1)=false->WpC Tryd.prog R 289 0 9 [1,1,1,1,1,1,1,1,1,0,1,0,0,1,1,0,0,1,1,0,0,1,1,0,0,1,1,1,1] Q [Kont.blk 3,Kont.seq [1,1,1,1,1,1,1,1,1,0,1,0,0,1,1,0,0,1,1,0,0,1,1,1]] (St.mk u2 u11 g)))/\(decide (u7<u4)=false->WpC Tryd.prog R 289 0 9 [1,1,1,1,1,1,1,1,1,0,1,0,0,1,1,0,0,1,1,0,0,1,0,1] Q [Kont.seq [1,1,1,1,1,1,1,1,1,0,1,0,0,1,1,0,0,1,1,0,0,1,1]] (St.mk [(2,bf b),(3,ref 0 0),(7,i6 (↑G:Int)),u8,u6,(13,i6 x),(18,AV.mp 1),(20,ref 2 0),(119,ax A),u10,(121,i6 (↑j:Int)),(126,u1),(127,i6 u4),(128,i6 u7),(129,AV.bool (decide (u7<u4)))] (u3::AObj.mapo (esI D')::u5) g))) (u3::AObj.mapo (esI (bg a 2 D'))::u5)) ((120,i6 (↑(List.length A.l):Int)))) (#[Edge.mk 0 Ground.data,Edge.mk 1 Ground.data,Edge.mk 0 Ground.phase,Edge.mk 1 Ground.phase])) ((9,fz V.2 1 (List.length V.l) fun i x=>af V.l i))) ((↑i:Int))) ((11,fz Fz.auto 1 (List.length (ai S).l) fun i x=>af (ai S).l i))) ([cO 2 (nth [i6 s.rule,u1])])) ((↑(List.length s.atoms.l):Int))) (cO 2 (nth [i6 p.atoms,ae p.rules]))) ([(2,bf b),(3,ref 0 0),(7,i6 (↑G:Int)),(9,fz V.2 1 (List.length V.l) fun i x=>af V.l i),(11,fz Fz.auto 1 (List.length (ai S).l) fun i x=>af (ai S).l i),(13,i6 x),(18,AV.mp 1),(20,ref 2 0),(22,af s.atoms.l i),(119,ax A),(120,i6 (↑(List.length A.l):Int)),(121,i6 (↑j:Int)),(126,u1),(127,i6 (↑(List.length s.atoms.l):Int)),(128,i6 (↑i:Int)),(136,AV.bool (s.rule == -1))])) (fz s.atoms.2 1 (List.length s.atoms.l) fun i x=>af s.atoms.l i)) ⟨fun _=>⟨omg,omg,?_,omg,fun _=>⟨?_,omg,?_⟩,fun hcc=>(nomatch (hcr.symm.trans hcc))⟩,fun hcc=>(nomatch (hcl2.symm.trans hcc))⟩
      ·exact ln (t:=69) (kt:=3) (vt:=43) (m:=.tmp 132) (x:=.tmp 133) (y:=.const (.int .i64 2)) (ob:=1) (es:=esI D') (es':=esI (bg a 2 D')) (kv:=.int .i64 a) (d:=.int .i64 2) rfl krf (Go.Maps.int_keyed (q:=.i64) krf) rfl rfl (fun FM Z v h=>by rw[<-ha];exact h) rfl (gh ha24) (fun e he=>ml hi2.rng he) (o9 hi2.nd)
      ·exact ln (t:=69) (kt:=3) (vt:=43) (m:=.tmp 137) (x:=.tmp 138) (y:=.const (.int .i64 1)) (ob:=1) (es:=esI (bg a 2 D')) (es':=esI (bg a 1 (bg a 2 D'))) (kv:=.int .i64 a) (d:=.int .i64 1) rfl krf (Go.Maps.int_keyed (q:=.i64) krf) rfl rfl (fun FM Z v h=>by rw[<-ha];exact h) rfl (gh ha24) (fun e he=>ml hr2 he) (o9 hn2)
      ·refine(aW (i+1,bg a 1 (bg a 2 D')) (aY ⟨AM _,AM _,AM _,AM _,AM _,AM _,AM _,AM _,AM _,AM _,AM _,AM _,AM _,(AN krf),trivial⟩ rfl rfl) ?_ ?_)
       ·refine⟨by show i+1<=_;omega,?_⟩
        rw[if_pos hsr]
        exact hi2.put2 ha24 hmt
       ·show s.atoms.l.length-(i+1)<s.atoms.l.length-i
        omega
     ·rw[if_neg hsr] at hi2
      have hcr:(s.rule == -1)=false:=by rw[beq_eq_false_iff_ne];exact hsr
      refine vcR [[1,1,1,1,1,1,1,1,1,0,1,0,0,1,1,0,0,1,1,0,0,1,1,0,0,1,1,1,0],[1,1,1,1,1,1,1,1,1,0,1,0,0,1,1,0,0,1,1,0,0,1,0,1]] (lkL [(15,[2,3,7,9,11,13,18,20,119,120,121,126,127,128,129]),(16,[2,3,7,9,11,13,18,20,22,119,120,121,126,127,128]),(17,[2,3,7,9,11,13,18,20,22,119,120,121,126,127,128]),(18,[2,3,7,9,11,13,18,20,22,119,120,121,126,127,128,136]),(20,[2,3,7,9,11,13,18,20,119,120,121,126,127,128])]) (lkL [(17,[(2,ROrc.own any [cO 2 (nth [i6 p.atoms,ae p.rules]),AObj.mapo (esI (bg a 2 D')),cO 2 (nth [i6 s.rule,ah s.atoms])] g)])]) (fun Q=>(fun (u1:AV)=>(fun (u2:Int)=>(fun (u3:List AObj)=>(fun (u4:Nat × AV)=>(fun (u5:Nat × AV)=>(fun (u6:Int)=>(fun (u7:Nat × AV)=>(fun (u8:List AObj)=>(fun (u9:Nat × AV)=>(fun (u10:Nat × AV)=>(decide (u6<u2)=true->(0<=u6/\u6<u2)/\1<=1/\OpOk Tryd.prog R (Oper.mk none (Op.mapUpdate 69 (Operand.tmp 132) (Operand.tmp 133) (Operand.const (Value.int i64 2))) 0 "outright.go:142" #[Edge.mk 0 Ground.data,Edge.mk 1 Ground.data,Edge.mk 0 Ground.phase,Edge.mk 1 Ground.phase] none) (evO [Row.mk (some 133) none (af s.atoms.l i) false (some []) [],Row.mk (some 132) none (AV.mp 1) false (some []) []] [(2,bf b),(3,ref 0 0),u10,u5,u4,(13,i6 x),(18,AV.mp 1),(20,ref 2 0),(22,af s.atoms.l i),(119,ax A),u7,u9,(126,u1),(127,i6 u2),(128,i6 u6)] []) u8 g any u3 g/\1<=2/\((s.rule == -1)=true->WpC Tryd.prog R 289 0 9 [1,1,1,1,1,1,1,1,1,0,1,0,0,1,1,0,0,1,1,0,0,1,1,0,0,1,1,1,0] Q [Kont.blk 3,Kont.seq [1,1,1,1,1,1,1,1,1,0,1,0,0,1,1,0,0,1,1,0,0,1,1,1]] (St.mk [(2,bf b),(3,ref 0 0),u10,u5,u4,(13,i6 x),(18,AV.mp 1),(20,ref 2 0),(22,af s.atoms.l i),(119,ax A),u7,u9,(126,u1),(127,i6 u2),(128,i6 u6),(136,AV.bool (s.rule == -1))] u3 g))/\((s.rule == -1)=false->(-9223372036854775808<=u6+1/\u6+1<=9223372036854775807)/\Q AEx.normal (St.mk [(2,bf b),(3,ref 0 0),u10,u5,u4,(13,i6 x),(18,AV.mp 1),(20,ref 2 0),(119,ax A),u7,u9,(126,u1),(127,i6 u2),(128,i6 (u6+1))] u3 g)))/\(decide (u6<u2)=false->WpC Tryd.prog R 289 0 9 [1,1,1,1,1,1,1,1,1,0,1,0,0,1,1,0,0,1,1,0,0,1,0,1] Q [Kont.seq [1,1,1,1,1,1,1,1,1,0,1,0,0,1,1,0,0,1,1,0,0,1,1]] (St.mk [(2,bf b),(3,ref 0 0),u10,u5,u4,(13,i6 x),(18,AV.mp 1),(20,ref 2 0),(119,ax A),u7,u9,(126,u1),(127,i6 u2),(128,i6 u6),(129,AV.bool (decide (u6<u2)))] u8 g))) ((7,i6 (↑G:Int)))) ((121,i6 (↑j:Int)))) ([cO 2 (nth [i6 p.atoms,ae p.rules]),AObj.mapo (esI D'),cO 2 (nth [i6 s.rule,u1])])) ((120,i6 (↑(List.length A.l):Int)))) ((↑i:Int))) ((9,fz V.2 1 (List.length V.l) fun i x=>af V.l i))) ((11,fz Fz.auto 1 (List.length (ai S).l) fun i x=>af (ai S).l i))) ([cO 2 (nth [i6 p.atoms,ae p.rules]),AObj.mapo (esI (bg a 2 D')),cO 2 (nth [i6 s.rule,u1])])) ((↑(List.length s.atoms.l):Int))) (fz s.atoms.2 1 (List.length s.atoms.l) fun i x=>af s.atoms.l i)) ⟨fun _=>⟨omg,omg,?_,omg,fun hcc=>(nomatch (hcr.symm.trans hcc)),fun _=>⟨omg,?_⟩⟩,fun hcc=>(nomatch (hcl2.symm.trans hcc))⟩
      ·exact ln (t:=69) (kt:=3) (vt:=43) (m:=.tmp 132) (x:=.tmp 133) (y:=.const (.int .i64 2)) (ob:=1) (es:=esI D') (es':=esI (bg a 2 D')) (kv:=.int .i64 a) (d:=.int .i64 2) rfl krf (Go.Maps.int_keyed (q:=.i64) krf) rfl rfl (fun FM Z v h=>by rw[<-ha];exact h) rfl (gh ha24) (fun e he=>ml hi2.rng he) (o9 hi2.nd)
      ·refine(aW (i+1,bg a 2 D') (aY ⟨AM _,AM _,AM _,AM _,AM _,AM _,AM _,AM _,AM _,AM _,AM _,AM _,AM _,(AN krf),trivial⟩ rfl rfl) ?_ ?_)
       ·refine⟨by show i+1<=_;omega,?_⟩
        rw[if_neg hsr]
        exact hi2.put ha24 hmt (fun _ _=>rfl)
       ·show s.atoms.l.length-(i+1)<s.atoms.l.length-i
        omega
    ·obtain rfl:i=s.atoms.l.length:=by omega
     have hcl2:decide ((s.atoms.l.length:Int)<(s.atoms.l.length:Int))=false:=decide_eq_false omg
     rw[List.take_length] at hi2
     have hfi:=hi2.fin (fun a ha=>((mg hp hr hfin (w:=w) (v:=v) hsw hkj).2 a ha).1) hkj
     refine vcR [[1,1,1,1,1,1,1,1,1,0,1,0,0,1,1,0,0,1,1,0,0,1,0,0]] (lkL [(15,[2,3,7,9,11,13,18,20,119,120,121,126,127,128,129])]) (fun _=>[]) (fun Q=>(fun (u1:St R.σ)=>(fun (u2:Int)=>(decide (u2<u2)=true->WpC Tryd.prog R 289 0 9 [1,1,1,1,1,1,1,1,1,0,1,0,0,1,1,0,0,1,1,0,0,1,0,0] Q [Kont.seq [1,1,1,1,1,1,1,1,1,0,1,0,0,1,1,0,0,1,1,0,0,1,1]] u1)/\(decide (u2<u2)=false->Q (AEx.exit 2) u1)) ((↑(List.length s.atoms.l):Int))) (St.mk [(2,bf b),(3,ref 0 0),(7,i6 (↑G:Int)),(9,fz V.2 1 (List.length V.l) fun i x=>af V.l i),(11,fz Fz.auto 1 (List.length (ai S).l) fun i x=>af (ai S).l i),(13,i6 x),(18,AV.mp 1),(20,ref 2 0),(119,ax A),(120,i6 (↑(List.length A.l):Int)),(121,i6 (↑j:Int)),(126,fz s.atoms.2 1 (List.length s.atoms.l) fun i x=>af s.atoms.l i),(127,i6 (↑(List.length s.atoms.l):Int)),(128,i6 (↑(List.length s.atoms.l):Int)),(129,AV.bool (decide ((↑(List.length s.atoms.l):Int)<(↑(List.length s.atoms.l):Int))))] [cO 2 (nth [i6 p.atoms,ae p.rules]),AObj.mapo (esI D'),cO 2 (nth [i6 s.rule,fz s.atoms.2 1 (List.length s.atoms.l) fun i x=>af s.atoms.l i])] g)) ⟨fun hcc=>(nomatch (hcl2.symm.trans hcc)),fun _=>?_⟩
     refine⟨_,A0 _,vcR [] (lkL [(21,[2,3,7,9,11,13,18,119,120,121])]) (fun _=>[]) (fun Q=>(-9223372036854775808<=(↑j:Int)+1/\(↑j:Int)+1<=9223372036854775807)/\Q AEx.normal (St.mk [(2,bf b),(3,ref 0 0),(7,i6 (↑G:Int)),(9,fz V.2 1 (List.length V.l) fun i x=>af V.l i),(11,fz Fz.auto 1 (List.length (ai S).l) fun i x=>af (ai S).l i),(13,i6 x),(18,AV.mp 1),(119,ax A),(120,i6 (↑(List.length A.l):Int)),(121,i6 ((↑j:Int)+1))] [cO 2 (nth [i6 p.atoms,ae p.rules]),AObj.mapo (esI D'),cO 2 (nth [i6 s.rule,fz s.atoms.2 1 (List.length s.atoms.l) fun i x=>af s.atoms.l i])] g)) ⟨omg,?_⟩⟩
     refine(aW (j+1,D') (toS [0,1] 3 (hob:=⟨⟨rfl,Nat.le_refl _,fun j hj=>match j,hj with|0,_=>(AM _)|1,_=>(AM _) ⟩,?_,trivial⟩)) ?_ ?_)
     ·exact Aq.symm
     ·refine⟨by show j+1<=_;omega,?_⟩
      show MapI (bw p (fun _=>3) (A.l.take (j+1))) 0 [] D'
      rw[tc hlt,hw,hs]
      exact hfi
     ·show A.l.length-(j+1)<A.l.length-j
      omega
  ·obtain rfl:j=A.l.length:=by omega
   have hcl:decide ((A.l.length:Int)<(A.l.length:Int))=false:=decide_eq_false omg
   rw[List.take_length,ha2] at hD
   have hCo:∀(c:Nat),c<n->∀(R:Res) (hp:List AObj) (g:R.σ),Does Tryd.prog R 43 [ah (ai S),.int .i64 c] hp g (.ret (.bool (S.testBit c))) hp g:=fun c hc R hp g=>by
    have h:=zU R (ai S) c hp g omg
    rw[Ar,show decide ((c:Int)∈(ai S).l)=S.testBit c by
     rw[Bool.eq_iff_iff,decide_eq_true_eq]
     exact⟨fun h=>(oT.1 h).2,fun h=>oT.2 ⟨omg,h⟩⟩] at h
    exact h
   refine vcR [[1,1,1,1,1,1,1,1,1,0,1,0,0,1,0,0]] (lkL [(12,[2,3,7,9,11,13,18,119,120,121,122])]) (fun _=>[]) (fun Q=>(fun (u1:St R.σ)=>(fun (u2:Int)=>(decide (u2<u2)=true->WpC Tryd.prog R 289 0 9 [1,1,1,1,1,1,1,1,1,0,1,0,0,1,0,0] Q [Kont.seq [1,1,1,1,1,1,1,1,1,0,1,0,0,1,1]] u1)/\(decide (u2<u2)=false->Q (AEx.exit 0) u1)) ((↑(List.length A.l):Int))) (St.mk [(2,bf b),(3,ref 0 0),(7,i6 (↑G:Int)),(9,fz V.2 1 (List.length V.l) fun i x=>af V.l i),(11,fz Fz.auto 1 (List.length (ai S).l) fun i x=>af (ai S).l i),(13,i6 x),(18,AV.mp 1),(119,ax A),(120,i6 (↑(List.length A.l):Int)),(121,i6 (↑(List.length A.l):Int)),(122,AV.bool (decide ((↑(List.length A.l):Int)<(↑(List.length A.l):Int))))] [cO 2 (nth [i6 p.atoms,ae p.rules]),AObj.mapo (esI D)] g)) ⟨fun hcc=>(nomatch (hcl.symm.trans hcc)),fun _=>?_⟩
   refine⟨_,A0 _,vcR [] (lkL [(22,[2,3,7,9,11,13,18,142,143])]) (fun _=>[]) (fun Q=>1<=2/\WpC Tryd.prog R 289 0 9 [1,1,1,1,1,1,1,1,1,1,0,1,0] Q [Kont.blk 4,Kont.seq [1,1,1,1,1,1,1,1,1,1,1]] (St.mk [(2,bf b),(3,ref 0 0),(7,i6 (↑G:Int)),(9,fz V.2 1 (List.length V.l) fun i x=>af V.l i),(11,fz Fz.auto 1 (List.length (ai S).l) fun i x=>af (ai S).l i),(13,i6 x),(18,AV.mp 1),(142,i6 p.atoms),(143,i6 0)] [cO 2 (nth [i6 p.atoms,ae p.rules]),AObj.mapo (esI D)] g)) ⟨omg,?_⟩⟩
   refine(bi krf (fun (c:Nat)=>⟨[(2,bf b),(3,ref 0 0),(7,i6 (G:Int)),(9,fz V.2 1 (V.l.length) fun (i x:Nat)=>af V.l i),(11,fz Fz.auto 1 ((ai S).l.length) fun (i x:Nat)=>af (ai S).l i),(13,i6 x),(18,AV.mp 1),(142,i6 p.atoms),(143,.int .i64 c)],[cO 2 (nth [i6 p.atoms,ae p.rules]),AObj.mapo (esI D)],g⟩) (fun (c:Nat)=>(c<=n)) (fun (c:Nat)=>(n-c)) 0 (aY ⟨AM _,AM _,AM _,AM _,AM _,AM _,AM _,AM _,(AN krf),trivial⟩ rfl rfl) ?_ (fun c hi=>?_))
   ·exact Nat.zero_le _
   ·rcases Nat.lt_or_ge c n with hlt|hge
    ·have hCc:=hCo c hlt
     have hvc:=hVg c hlt
     have hcl2:decide ((c:Int)<p.atoms)=true:=decide_eq_true omg
     have hgc:cC c D=iV (cn S (am (ar p S)).2) c:=hD.val c
     refine vcR [[1,1,1,1,1,1,1,1,1,1,0,1,0,0,1,0,1]] (lkL [(23,[2,3,7,9,11,13,18,142,143,144]),(24,[2,3,7,9,11,13,18,23,142,143]),(25,[2,3,7,9,11,13,18,23,24,142,143]),(26,[2,3,7,9,11,13,18,23,24,25,142,143]),(27,[2,3,7,9,11,13,18,142,143,169]),(28,[6]),(29,[2,3,7,9,11,13,18,142,143])]) (lkL [(25,[(2,ROrc.pcall (AV.bool (Nat.testBit S c)))]),(26,[(2,ROrc.look (i6 (cC (↑c:Int) D)) [1])])]) (fun Q=>(fun (u1:AV)=>(fun (u2:List AObj)=>(fun (u3:Int)=>(fun (u4:Bool)=>(fun (u5:Nat × AV)=>(decide (u3<p.atoms)=true->(∀(hp:List AObj) (g:R.σ),true=true/\Does Tryd.prog R 43 [u1,i6 u3] hp g (ret (AV.bool (Nat.testBit S c))) hp g)/\(∀(hp':List AObj) (g':R.σ),SameO [1] u2 hp'->OpOk Tryd.prog R (Oper.mk (some 151) (Op.lookup 69 (Operand.tmp 149) (Operand.tmp 150) false) 43 "outright.go:150" #[Edge.mk 0 Ground.data,Edge.mk 1 Ground.data] none) (evO [Row.mk (some 150) none (i6 u3) false (some []) [],Row.mk (some 149) none (AV.mp 1) false (some []) []] [(2,bf b),(3,ref 0 0),(7,i6 (↑G:Int)),u5,(11,u1),(13,i6 x),(18,AV.mp 1),(23,i6 u3),(24,AV.bool (Nat.testBit S c)),(142,i6 p.atoms),(143,i6 u3)] []) hp' g' (i6 (cC u3 D)) hp' g')/\(Nat.testBit S c=true->0<=u3/\u3<(↑(List.length V.l):Int))/\(Nat.testBit S c=true->1<=1)/\(Nat.testBit S c=true->(↑3:Int)≠0)/\(u4=true->Q AEx.ret (St.mk [(6,AV.bool false)] u2 g))/\(u4=false->(-9223372036854775808<=u3+1/\u3+1<=9223372036854775807)/\Q AEx.normal (St.mk [(2,bf b),(3,ref 0 0),(7,i6 (↑G:Int)),u5,(11,u1),(13,i6 x),(18,AV.mp 1),(142,i6 p.atoms),(143,i6 (u3+1))] u2 g)))/\(decide (u3<p.atoms)=false->WpC Tryd.prog R 289 0 9 [1,1,1,1,1,1,1,1,1,1,0,1,0,0,1,0,1] Q [Kont.seq [1,1,1,1,1,1,1,1,1,1,0,1,0,0,1,1]] (St.mk [(2,bf b),(3,ref 0 0),(7,i6 (↑G:Int)),u5,(11,u1),(13,i6 x),(18,AV.mp 1),(142,i6 p.atoms),(143,i6 u3),(144,AV.bool (decide (u3<p.atoms)))] u2 g))) ((9,fz V.2 1 (List.length V.l) fun i x=>af V.l i))) (bif bif Nat.testBit S c then cC u3 D != Int.tmod (List.getD V.l c 0) 3 else false then true else bif !Nat.testBit S c then cC u3 D != 0 else false)) ((↑c:Int))) ([cO 2 (nth [i6 p.atoms,ae p.rules]),AObj.mapo (esI D)])) (fz Fz.auto 1 (List.length (ai S).l) fun i x=>af (ai S).l i)) ⟨fun _=>⟨(fun _ _=>⟨rfl,(hCo _ omg _ _ _)⟩),?_,omg,omg,omg,fun c1=>have c1:Nat.testBit S c=true/\¬cC (↑c:Int) D=Int.tmod (List.getD V.l c 0) 3∨Nat.testBit S c=false/\¬cC (↑c:Int) D=0:=((ek c1).imp (fun h=>⟨(dO h).1,(bne_iff_ne.mp (dO h).2)⟩) (fun h=>⟨((Bool.not_eq_true' _).mp (dO h).1),(bne_iff_ne.mp (dO h).2)⟩));?_,fun c1=>have c1:(Nat.testBit S c=false∨cC (↑c:Int) D=Int.tmod (List.getD V.l c 0) 3)/\(Nat.testBit S c=true∨cC (↑c:Int) D=0):=⟨((gH (bQ c1).1).imp (fun h=>h) (fun h=>(bne_eq_false_iff_eq.mp h))),((gH (bQ c1).2).imp (fun h=>((Bool.not_eq_false' _).mp h)) (fun h=>(bne_eq_false_iff_eq.mp h)))⟩;⟨omg,?_⟩⟩,fun hcc=>(nomatch (hcl2.symm.trans hcc))⟩
     ·intro hp' g' hh
      have h1:ag hp' 1=.mapo (esI D):=hh.h 1 (List.Mem.head _)
      exact q0 (t:=69) (kt:=3) (vt:=43) (m:=.tmp 149) (x:=.tmp 150) (ob:=1) (es:=esI D) (kv:=.int .i64 c) rfl krf (Go.Maps.int_keyed (q:=.i64) krf) rfl rfl h1 (fun FM Z v h=>h) (gh omg) (fun e he=>ml hD.rng he) (fun h=>by
       rw[tx fun e he h1=>h _ (List.mem_map.2 ⟨e,he,rfl⟩) (by rw[h1])]
       exact AM _) (fun e he hk=>by
       obtain⟨y,hy,rfl⟩:=List.mem_map.1 he
       have hk:y.1=c:=(Value.int.inj hk).2
       rw[<-tw hD.nd y hy hk])
     ·exfalso
      rw[hgc,hvc] at c1
      unfold iV cn at c1
      rcases c1 with⟨e1,e2⟩|⟨e1,e2⟩
      ·rw[if_pos e1,show(am (ar p S)).2 c=v c by rw[<-hv];exact mh hpm e1] at e2
       rcases hfin.dom c with e|e|e <;> rw[e] at e2 <;> exact e2 rfl
      ·simp[e1] at e2
     ·refine(aW (c+1) (aY ⟨AM _,AM _,AM _,AM _,AM _,AM _,AM _,AM _,(AN krf),trivial⟩ rfl rfl) ?_ ?_)
      ·omega
      ·omega
    ·obtain rfl:c=n:=by omega
     have hcl2:decide ((c:Int)<p.atoms)=false:=decide_eq_false omg
     have hCi:∀(a:Int),0<=a->a<p.atoms->∀(R:Res) (hp:List AObj) (g:R.σ),Does Tryd.prog R 43 [ah (ai S),.int .i64 a] hp g (.ret (.bool (S.testBit a.toNat))) hp g:=fun a h0 ha R hp g=>by
      have h:=hCo a.toNat omg R hp g
      rw[show((a.toNat:Nat):Int)=a by omega] at h
      exact h
     clear hCo
     refine vcR [[1,1,1,1,1,1,1,1,1,1,0,1,0,0,1,0,0]] (lkL [(23,[2,3,7,9,11,13,18,142,143,144])]) (fun _=>[]) (fun Q=>(fun (u1:St R.σ)=>(decide ((↑c:Int)<p.atoms)=true->WpC Tryd.prog R 289 0 9 [1,1,1,1,1,1,1,1,1,1,0,1,0,0,1,0,0] Q [Kont.seq [1,1,1,1,1,1,1,1,1,1,0,1,0,0,1,1]] u1)/\(decide ((↑c:Int)<p.atoms)=false->Q (AEx.exit 4) u1)) (St.mk [(2,bf b),(3,ref 0 0),(7,i6 (↑G:Int)),(9,fz V.2 1 (List.length V.l) fun i x=>af V.l i),(11,fz Fz.auto 1 (List.length (ai S).l) fun i x=>af (ai S).l i),(13,i6 x),(18,AV.mp 1),(142,i6 p.atoms),(143,i6 (↑c:Int)),(144,AV.bool (decide ((↑c:Int)<p.atoms)))] [cO 2 (nth [i6 p.atoms,ae p.rules]),AObj.mapo (esI D)] g)) ⟨fun hcc=>(nomatch (hcl2.symm.trans hcc)),fun _=>?_⟩
     refine⟨_,A0 _,vcR [] (lkL [(30,[2,3,7,11,13,26]),(31,[2,3,7,11,13,26,175,176,177])]) (lkL [(30,[(4,ROrc.val (Orc.obj (nth [i6 p.atoms,fz Fz.nil 0 0 fun (x x_1:Nat)=>any])))])]) (fun Q=>(fun (u1:List AV)=>1<=2/\2<=2/\(∀(c:Nat),c<2->nth (i6 p.atoms::u1) c=ao (nth (i6 0::u1)) 0 2 (List.brecOn (motive:=fun (x:List AV)=>Nat->AV) (i6 p.atoms::u1) nth._f) c)/\2<=2/\WpC Tryd.prog R 289 0 9 [1,1,1,1,1,1,1,1,1,1,1,1,0,1,0] Q [Kont.blk 6,Kont.seq [1,1,1,1,1,1,1,1,1,1,1,1,1]] (St.mk [(2,bf b),(3,ref 0 0),(7,i6 (↑G:Int)),(11,fz Fz.auto 1 (List.length (ai S).l) fun i x=>af (ai S).l i),(13,i6 x),(26,ref 2 0),(175,ae p.rules),(176,i6 (↑(List.length p.rules.l):Int)),(177,i6 0)] [cO 2 (nth [i6 p.atoms,ae p.rules]),AObj.mapo (esI D),cO 2 (nth (i6 p.atoms::u1))] g)) ([fz Fz.nil 0 0 fun x x_1=>any])) ⟨omg,omg,(fun c hc=>match c,hc with|0,_=>krf|1,_=>krf ),omg,?_⟩⟩
     refine cp (toS (s':=⟨[(2,bf b),(3,.ref 0 0),(7,.int .i64 G),(11,ah (ai S)),(13,.int .i64 x),(26,.ref 1 0),(175,ae p.rules),(176,.int .i64 p.rules.l.length),(177,.int .i64 0)],[cO 2 (nth [.int .i64 p.atoms,ae p.rules]),cO 2 (nth [.int .i64 p.atoms,.fz .nil 0 0 (fun _ _=>.any)])],g⟩) [0,2] 3 (hob:=⟨AY (fun j hj=>match j,hj with|0,_=>rfl|1,_=>rfl),AY (fun j hj=>match j,hj with|0,_=>rfl|1,_=>rfl),trivial⟩)) ?_
     refine cp (gg (fun _=>.any) 1) ?_
     refine(bi krf (fun (y:Nat × Nat × List Rule)=>⟨[(2,bf b),(3,ref 0 0),(7,i6 (G:Int)),(11,fz Fz.auto 1 ((ai S).l.length) fun (i x:Nat)=>af (ai S).l i),(13,i6 x),(26,ref 1 0),(175,ae p.rules),(176,i6 (p.rules.l.length:Int)),(177,.int .i64 y.1)],[cO 2 (nth [.int .i64 p.atoms,ae p.rules]),cO 2 (nth [.int .i64 p.atoms,.ow true 2 y.2.1 2]),cO (y.2.1*2) (aJ y.2.2)],g⟩) (fun (y:Nat × Nat × List Rule)=>(y.1<=p.rules.l.length/\y.2.1=y.2.2.length/\QOk p S y.1 y.2.2)) (fun (y:Nat × Nat × List Rule)=>(p.rules.l.length-y.1)) ((0,0,[]):Nat × Nat × List Rule) (toL (h1:=⟨AM _,AM _,AM _,AM _,AM _,AM _,AM _,AM _,(AN krf),trivial⟩) (h2:=⟨AO,⟨rfl,Nat.le_refl _,fun j hj=>match j,hj with|0,_=>(AM _)|1,_=>Le.nil_ow ⟩,⟨rfl,Nat.le_refl _,fun j hj=>absurd hj (Nat.not_lt_zero j)⟩,trivial⟩)) ?_ (fun y hi=>?_))
     ·exact⟨Nat.zero_le _,rfl,fun r h=>(by cases h),fun j h=>absurd h (Nat.not_lt_zero _),Nat.le_refl _⟩
     ·obtain⟨i,m1,qs⟩:=y
      obtain⟨hi1,hm1,hQ⟩:=hi
      simp only at hi1 hm1 hQ
      rcases Nat.lt_or_ge i p.rules.l.length with hlt|hge
      ·have hrm:=bx p.rules.l default hlt
       have hrk:=hr _ hrm
       have hrh:=hh _ hrm
       have htk:=hQ.take hlt
       have hlv:=hQ.leave
       have hCr:=hCi (p.rules.l.getD i default).head hrk.2.1 hrh
       have hcl3:decide ((i:Int)<(p.rules.l.length:Int))=true:=decide_eq_true omg
       have hQl:=hQ.len
       refine vcR [[1,1,1,1,1,1,1,1,1,1,1,1,0,1,0,0,1,0,1]] (lkL [(32,[2,3,7,11,13,26,175,176,177,178]),(33,[2,3,7,11,13,26,27,28,175,176,177]),(34,[2,3,7,11,13,26,28,175,176,177,201]),(35,[2,3,7,11,13,26,175,176,177]),(36,[2,3,7,11,13,26,175,176,177])]) (lkL [(33,[(5,ROrc.val (Orc.obj (nth [i6 (List.getD p.rules.l i default).head,ap (List.getD p.rules.l i default).body])))]),(34,[(3,ROrc.pcall (AV.bool (Nat.testBit S (Int.toNat (List.getD p.rules.l i default).head))))]),(35,[(4,ROrc.val (Orc.obj (aJ (qs++[List.getD p.rules.l i default])))),(6,ROrc.val (Orc.obj (nth [i6 p.atoms,ow true 5 (m1+1) 2])))])]) (fun Q=>(fun (u1:Rule)=>(fun (u2:Int)=>(fun (u3:Int)=>(fun (u4:List (Nat × AV))=>(fun (u5:Bool)=>(fun (u6:List AV)=>(fun (u7:Int)=>(fun (u8:AObj)=>(fun (u9:Bool)=>(fun (u10:List AV)=>(fun (u11:AV)=>(fun (u12:List AV)=>(decide (u7<u3)=true->(0<=u7/\u7<u3)/\2<=2/\2<=2/\(∀(c:Nat),c<2->nth u6 c=ao (nth u10) 0 2 (List.brecOn (motive:=fun (x:List AV)=>Nat->AV) u6 nth._f) c)/\1<=2/\(∀(hp:List AObj) (g:R.σ),true=true/\Does Tryd.prog R 43 [u11,i6 u1.head] hp g (ret (AV.bool (Nat.testBit S (Int.toNat u1.head)))) hp g)/\(u9=true->u2≠0)/\(u9=true->0<=Int.tmod u7 u2/\Int.tmod u7 u2<u2)/\(u9=true->1<=1)/\(u5=true->2<=2/\2<=2/\0<2/\(m1+1)*32<=aN/\m1+1<=aN/\2<=2/\m1*2<=m1*2/\(∀(c:Nat),c<(m1+1)*2->aJ (qs++[u1]) c=bb 2 m1 (fun (i j:Nat)=>aJ qs (i*2+j)) (fun (i j:Nat)=>ao (fun (j:Nat)=>nth u10 (j%2)) 0 2 (List.brecOn (motive:=fun (x:List AV)=>Nat->AV) u6 nth._f) (0+i*2+j)) c)/\2<=2/\(∀(c:Nat),c<2->nth [i6 p.atoms,ow true 5 (m1+1) 2] c=ao (nth u12) 1 1 (fun (x:Nat)=>ow true 5 (m1+1) 2) c)/\(-9223372036854775808<=u7+1/\u7+1<=9223372036854775807)/\Q AEx.normal (St.mk u4 [u8,cO 2 (nth [i6 p.atoms,ow true 5 (m1+1) 2]),dead,cO 2 (nth u6),cO 2 (ao (fun (j:Nat)=>nth u10 (j%2)) 0 2 (List.brecOn (motive:=fun (x:List AV)=>Nat->AV) u6 nth._f)),cO ((m1+1)*2) (aJ (qs++[u1]))] g))/\(u5=false->(-9223372036854775808<=u7+1/\u7+1<=9223372036854775807)/\Q AEx.normal (St.mk u4 [u8,cO 2 (nth u12),cO (m1*2) (aJ qs),cO 2 (nth u6)] g)))/\(decide (u7<u3)=false->WpC Tryd.prog R 289 0 9 [1,1,1,1,1,1,1,1,1,1,1,1,0,1,0,0,1,0,1] Q [Kont.seq [1,1,1,1,1,1,1,1,1,1,1,1,0,1,0,0,1,1]] (St.mk [(2,bf b),(3,ref 0 0),(7,i6 (↑G:Int)),(11,u11),(13,i6 x),(26,ref 1 0),(175,ae p.rules),(176,i6 u3),(177,i6 u7),(178,AV.bool (decide (u7<u3)))] [u8,cO 2 (nth u12),cO (m1*2) (aJ qs)] g))) ([i6 p.atoms,ow true 2 m1 2])) (fz Fz.auto 1 (List.length (ai S).l) fun i x=>af (ai S).l i)) ([i6 0,fz Fz.nil 0 0 fun x x_1=>any])) (!Nat.testBit S (Int.toNat u1.head)&&decide (u2 > 0))) (cO 2 (nth [i6 p.atoms,ae p.rules]))) ((↑i:Int))) ([i6 u1.head,ap u1.body])) (bif Nat.testBit S (Int.toNat u1.head) then true else bif decide (u2 > 0) then IntKind.wrap IntKind.u32 (↑(BitVec.toNat (BitVec.ofInt 32 (List.getD b.l (i%List.length b.l) 0)&&&BitVec.ofInt 32 1)):Int)==0 else false)) ([(2,bf b),(3,ref 0 0),(7,i6 (↑G:Int)),(11,fz Fz.auto 1 (List.length (ai S).l) fun i x=>af (ai S).l i),(13,i6 x),(26,ref 1 0),(175,ae p.rules),(176,i6 u3),(177,i6 ((↑i:Int)+1))])) ((↑(List.length p.rules.l):Int))) ((↑(List.length b.l):Int))) (List.getD p.rules.l i default)) ⟨fun _=>⟨omg,omg,omg,(fun c hc=>match c,hc with|0,_=>krf|1,_=>krf ),omg,(fun _ _=>⟨rfl,(hCi _ ?_ omg _ _ _)⟩),(by intro h;simp at h <;> omega),?_,omg,fun c1=>have c1:Nat.testBit S (Int.toNat (List.getD p.rules.l i default).head)=true∨(↑(List.length b.l):Int) > 0/\IntKind.wrap IntKind.u32 (↑(BitVec.toNat (BitVec.ofInt 32 (List.getD b.l (i%List.length b.l) 0)&&&BitVec.ofInt 32 1)):Int)=0:=((ek c1).imp (fun h=>h) (fun h=>⟨(of_decide_eq_true (dO h).1),(beq_iff_eq.mp (dO h).2)⟩));⟨omg,omg,omg,omg,omg,omg,omg,?_,omg,(fun c hc=>match c,hc with|0,_=>krf|1,_=>krf ),omg,?_⟩,fun c1=>have c1:Nat.testBit S (Int.toNat (List.getD p.rules.l i default).head)=false/\(¬(↑(List.length b.l):Int) > 0∨¬IntKind.wrap IntKind.u32 (↑(BitVec.toNat (BitVec.ofInt 32 (List.getD b.l (i%List.length b.l) 0)&&&BitVec.ofInt 32 1)):Int)=0):=⟨(bQ c1).1,((gH (bQ c1).2).imp (fun h=>(of_decide_eq_false h)) (fun h=>(beq_eq_false_iff_ne.mp h)))⟩;⟨omg,?_⟩⟩,fun hcc=>(nomatch (hcl3.symm.trans hcc))⟩
       ·exact hrk.2.1
       ·intro h
        rw[Bool.and_eq_true,decide_eq_true_eq] at h
        have e:((i:Int).tmod (b.l.length:Int))=((i%b.l.length:Nat):Int):=rfl
        have:=Nat.mod_lt i (show 0<b.l.length by omega)
        rw[e]
        omega
       ·intro c hc
        rw[hm1] at hc ⊢
        exact(lO (r:=p.rules.l.getD i default) (z:=fun j=>nth [.int .i64 0,.fz .nil 0 0 fun _ _=>.any] (j%2)) hc).trans krf
       ·refine(aW (i+1,m1+1,qs++[p.rules.l.getD i default]) (toS [0,1,5] 6 (hob:=⟨⟨rfl,Nat.le_refl _,fun j hj=>match j,hj with|0,_=>(AM _)|1,_=>(AM _) ⟩,⟨rfl,Nat.le_refl _,fun j hj=>match j,hj with|0,_=>(AM _)|1,_=>(AM _) ⟩,⟨by first|rfl|(simp;done),by first|exact Nat.le_refl _|(simp;done)|(simp;omega),fun j hj=>(by first|exact bp (by first|exact trivial|apply f7)|exact AN (iB rfl).symm)⟩,trivial⟩)) ?_ ?_)
        ·refine⟨by show i+1<=_;omega,?_,htk⟩
         show m1+1=(qs++[p.rules.l.getD i default]).length
         rw[List.length_append,<-hm1]
         rfl
        ·show p.rules.l.length-(i+1)<p.rules.l.length-i
         omega
       ·refine(aW (i+1,m1,qs) (toS [0,1,2] 4 (hob:=⟨⟨rfl,Nat.le_refl _,fun j hj=>match j,hj with|0,_=>(AM _)|1,_=>(AM _) ⟩,⟨rfl,Nat.le_refl _,fun j hj=>match j,hj with|0,_=>(AM _)|1,_=>(AM _) ⟩,⟨by first|rfl|(simp;done),by first|exact Nat.le_refl _|(simp;done)|(simp;omega),fun j hj=>(by first|exact bp (by first|exact trivial|apply f7)|exact AN (iB rfl).symm)⟩,trivial⟩)) ?_ ?_)
        ·exact⟨by show i+1<=_;omega,hm1,hlv c1.1⟩
        ·show p.rules.l.length-(i+1)<p.rules.l.length-i
         omega
      ·obtain rfl:i=p.rules.l.length:=by omega
       have hcl3:decide ((p.rules.l.length:Int)<(p.rules.l.length:Int))=false:=decide_eq_false omg
       have hr40:p.rules.l.length<=40:=by
        unfold aD at hb
        simp only[Bool.and_eq_true,decide_eq_true_eq] at hb
        exact hb.2.1
       have hrB:∀r,r∈p.rules.l->dF p.atoms r=true:=by
        unfold aD at hb
        simp only[Bool.and_eq_true,List.all_eq_true] at hb
        exact hb.2.2
       have hQl:=hQ.len
       obtain⟨M,hM⟩:∃M:Nat,M=min b.l.length (40-m1):=⟨_,rfl⟩
       have hk1:(if (0:Int)<40-(m1:Int) then 40-(m1:Int) else 0)=((40-m1:Nat):Int):=by
        split <;> omega
       have hk2:(if ((40-m1:Nat):Int)<(b.l.length:Int) then((40-m1:Nat):Int) else(b.l.length:Int))=(M:Int):=by
        split <;> omega
       refine vcR [[1,1,1,1,1,1,1,1,1,1,1,1,0,1,0,0,1,0,0]] (lkL [(32,[2,3,7,11,13,26,175,176,177,178])]) (fun _=>[]) (fun Q=>(fun (u1:Int)=>(fun (u2:St R.σ)=>(decide (u1<u1)=true->WpC Tryd.prog R 289 0 9 [1,1,1,1,1,1,1,1,1,1,1,1,0,1,0,0,1,0,0] Q [Kont.seq [1,1,1,1,1,1,1,1,1,1,1,1,0,1,0,0,1,1]] u2)/\(decide (u1<u1)=false->Q (AEx.exit 6) u2)) (St.mk [(2,bf b),(3,ref 0 0),(7,i6 (↑G:Int)),(11,fz Fz.auto 1 (List.length (ai S).l) fun i x=>af (ai S).l i),(13,i6 x),(26,ref 1 0),(175,ae p.rules),(176,i6 u1),(177,i6 u1),(178,AV.bool (decide (u1<u1)))] [cO 2 (nth [i6 p.atoms,ae p.rules]),cO 2 (nth [i6 p.atoms,ow true 2 m1 2]),cO (m1*2) (aJ qs)] g)) ((↑(List.length p.rules.l):Int))) ⟨fun hcc=>(nomatch (hcl3.symm.trans hcc)),fun _=>?_⟩
       refine⟨_,A0 _,vcR [] (lkL [(37,[3,7,11,13,26,218,219,220])]) (lkL [(37,[(7,ROrc.kop (i6 (↑(40-m1):Int))),(8,ROrc.kop (i6 (↑M:Int)))])]) (fun Q=>(fun (u1:List AObj)=>(fun (u2:List Row)=>(fun (u3:List (Nat × AV))=>2<=2/\(-9223372036854775808<=40-(↑m1:Int)/\40-(↑m1:Int)<=9223372036854775807)/\OpOk Tryd.prog R (Oper.mk (some 216) (Op.call (Call.mk (Callee.builtin Builtin.max) #[Operand.const (Value.int i64 0),Operand.tmp 215] #[3,3])) 3 "outright.go:160" #[Edge.mk 6 Ground.data] none) (evO u2 u3 []) u1 g (i6 (↑(40-m1):Int)) u1 g/\OpOk Tryd.prog R (Oper.mk (some 217) (Op.call (Call.mk (Callee.builtin Builtin.min) #[Operand.tmp 211,Operand.tmp 216] #[3,3])) 3 "outright.go:160" #[Edge.mk 2 Ground.data,Edge.mk 7 Ground.data] none) (evO (Row.mk (some 216) none (i6 (↑(40-m1):Int)) true (some []) []::u2) u3 []) u1 g (i6 (↑M:Int)) u1 g/\(0<=(↑M:Int)/\(↑M:Int)<=(↑(List.length b.l):Int))/\WpC Tryd.prog R 289 0 9 [1,1,1,1,1,1,1,1,1,1,1,1,1,0,1,0] Q [Kont.blk 8,Kont.seq [1,1,1,1,1,1,1,1,1,1,1,1,1,1]] (St.mk [(3,ref 0 0),(7,i6 (↑G:Int)),(11,fz Fz.auto 1 (List.length (ai S).l) fun i x=>af (ai S).l i),(13,i6 x),(26,ref 1 0),(218,fz (fN b.k) 1 (M-0) fun i j=>int IntKind.u32 (List.getD b.l (0+i) 0)),(219,i6 (↑(M-0):Int)),(220,i6 0)] u1 g)) ([(2,bf b),(3,ref 0 0),(7,i6 (↑G:Int)),(11,fz Fz.auto 1 (List.length (ai S).l) fun i x=>af (ai S).l i),(13,i6 x),(26,ref 1 0),(175,ae p.rules),(176,i6 (↑(List.length p.rules.l):Int)),(177,i6 (↑(List.length p.rules.l):Int)),(178,AV.bool (decide ((↑(List.length p.rules.l):Int)<(↑(List.length p.rules.l):Int))))])) ([Row.mk (some 215) none (i6 (40-(↑m1:Int))) false (some []) [],Row.mk (some 214) none (i6 (↑m1:Int)) false (some []) [],Row.mk (some 213) none (ow true 2 m1 2) false (some []) [1],Row.mk (some 212) none (ref 1 1) false (some []) [],Row.mk (some 211) none (i6 (↑(List.length b.l):Int)) false (some []) [],Row.mk (some 210) none (bf b) false (some []) [],Row.mk (some 209) none (bf b) false (some []) []])) ([cO 2 (nth [i6 p.atoms,ae p.rules]),cO 2 (nth [i6 p.atoms,ow true 2 m1 2]),cO (m1*2) (aJ qs)])) ⟨omg,omg,?_,?_,omg,?_⟩⟩
       ·rw[<-hk1]
        exact As rfl rfl rfl rfl rfl
       ·rw[<-hk2]
        exact Al rfl rfl rfl rfl rfl
       refine cp (toL (s':=⟨[(3,.ref 0 0),(7,.int .i64 G),(11,ah (ai S)),(13,.int .i64 x),(26,.ref 1 0),(218,.fz (fN b.k) 1 M (fun i _=>.int .u32 (b.l.getD i 0))),(219,.int .i64 M),(220,.int .i64 0)],[cO 2 (nth [.int .i64 p.atoms,ae p.rules]),cO 2 (nth [.int .i64 p.atoms,.ow true 2 m1 2]),cO (m1*2) (aJ qs)],g⟩) (h1:=⟨AM _,AM _,AM _,AM _,AM _,AT rfl (fun i j hi hj=>by show AV.int .u32 (b.l.getD (0+i) 0)=_;rw[Nat.zero_add]),AM _,AM _,trivial⟩) (h2:=⟨AP _,AP _,AP _,trivial⟩)) ?_
       have hN0:QN p S m1 qs:=by
        refine⟨fun r h=>⟨hrB r (hQ.sub r h),.inl (hQ.sub r h)⟩,fun r h hs=>?_,omg⟩
        obtain⟨j,hj,e⟩:=List.getElem_of_mem h
        have e2:p.rules.l.getD j default=r:=by rw[List.getD_eq_getElem?_getD,List.getElem?_eq_getElem hj];exact e
        have:=hQ.has j hj (by rw[e2];exact hs)
        rw[e2] at this
        exact this
       refine(bi krf (fun (y:Nat × Nat × List Rule)=>⟨[(3,ref 0 0),(7,i6 (G:Int)),(11,fz Fz.auto 1 ((ai S).l.length) fun (i x:Nat)=>af (ai S).l i),(13,i6 x),(26,ref 1 0),(218,fz (fN b.k) 1 M fun (i x:Nat)=>int IntKind.u32 (b.l.getD i 0)),(219,i6 (M:Int)),(220,.int .i64 y.1)],[cO 2 (nth [.int .i64 p.atoms,ae p.rules]),cO 2 (nth [.int .i64 p.atoms,.ow true 2 y.2.1 2]),cO (y.2.1*2) (aJ y.2.2)],g⟩) (fun (y:Nat × Nat × List Rule)=>(y.1<=M/\y.2.1=y.2.2.length/\QN p S (m1+y.1) y.2.2)) (fun (y:Nat × Nat × List Rule)=>(M-y.1)) ((0,m1,qs):Nat × Nat × List Rule) (aY ⟨AM _,AM _,AM _,AM _,AM _,AM _,AM _,(AN krf),trivial⟩ rfl rfl) ?_ (fun y hi=>?_))
       ·exact⟨Nat.zero_le _,hm1,hN0⟩
       ·obtain⟨k,m2,ws⟩:=y
        obtain⟨hk,hm2,hN⟩:=hi
        simp only at hk hm2 hN
        rcases Nat.lt_or_ge k M with hlt|hge
        ·obtain⟨kk,hkk,hkl⟩:∃kk:Nat,b.l.getD k 0=kk/\kk<2^32:=⟨(b.l.getD k 0).toNat,by
          have:=hq _ (bx b.l 0 (show k<b.l.length by omega))
          omega⟩
         have hhd:=Au (n:=c) hpa hkl omg
         have hcl4:decide ((k:Int)<(M:Int))=true:=decide_eq_true omg
         have hCr:=hCi (ff p kk) hhd.1 hhd.2
         obtain⟨bd,hbd⟩:∃bd:KL Lit,bd=⟨[⟨G,(kk:Int).tmod 2==0⟩],.exa⟩:=⟨_,rfl⟩
         have hNl:=hN.len
         have hnb:dF p.atoms ⟨ff p kk,bd⟩=true:=by
          subst hbd
          unfold dF
          simp only[Bool.and_eq_true,decide_eq_true_eq,List.all_cons,List.all_nil,eo]
          exact⟨⟨hhd.1,omg⟩,by show 1<=4;omega,⟨omg,omg⟩,trivial⟩
         refine vcR [[1,1,1,1,1,1,1,1,1,1,1,1,1,0,1,0,0,1,0,1]] (lkL [(38,[3,7,11,13,26,218,219,220,221]),(39,[3,7,11,13,26,30,218,219,220]),(40,[3,7,11,13,26,31,218,219,220]),(41,[3,7,11,13,26,31,218,219,220,241]),(42,[3,7,11,13,26,218,219,220]),(43,[3,7,11,13,26,218,219,220])]) (lkL [(40,[(11,ROrc.kop (ap bd)),(14,ROrc.val (Orc.obj (nth [i6 (Int.tmod (IntKind.wrap i64 (IntKind.wrap IntKind.u32 (Int.tdiv (List.getD b.l k 0) 2))) p.atoms),ap bd])))]),(41,[(3,ROrc.pcall (AV.bool (Nat.testBit S (Int.toNat (Int.tmod (IntKind.wrap i64 (IntKind.wrap IntKind.u32 (Int.tdiv (List.getD b.l k 0) 2))) p.atoms)))))]),(42,[(4,ROrc.val (Orc.obj (aJ (ws++[Rule.mk (ff p kk) bd])))),(6,ROrc.val (Orc.obj (nth [i6 p.atoms,ow true 5 (m2+1) 2])))])]) (fun Q=>(fun (u1:Int)=>(fun (u2:List (Nat × AV))=>(fun (u3:List AObj)=>(fun (u4:AV)=>(fun (u5:Int)=>(fun (u6:List AV)=>(fun (u7:Int)=>(fun (u8:List AV)=>(fun (u9:Int)=>(fun (u10:AV)=>(fun (u11:Nat × AV)=>(fun (u12:AV)=>(decide (u5<u9)=true->(0<=u5/\u5<u9)/\1<=1/\(↑2:Int)≠0/\1<=2/\p.atoms≠0/\(↑2:Int)≠0/\OpOk Tryd.prog R (Oper.mk (some 235) (Op.buildSlice 73 1 #[(0,Operand.tmp 234)]) 73 "outright.go:161" #[Edge.mk 10 Ground.data] none) (evO [Row.mk (some 234) none (agg 2 (nth [u12,AV.bool (Int.tmod u7 2==0)])) false (some []) [],Row.mk (some 233) none (AV.bool (Int.tmod u7 2==0)) false (some []) [],Row.mk (some 232) none (int IntKind.u32 (Int.tmod u7 2)) false (some []) [],Row.mk (some 231) none (int IntKind.u32 u7) false (some []) [],Row.mk (some 230) none u12 false (some []) [],Row.mk (some 229) none (i6 u1) false (some []) [],Row.mk (some 228) none u10 false (some []) [0],Row.mk (some 227) none (ref 0 0) false (some []) [],Row.mk (some 226) none (i6 (IntKind.wrap i64 (IntKind.wrap IntKind.u32 (Int.tdiv u7 2)))) false (some []) [],Row.mk (some 225) none (int IntKind.u32 (IntKind.wrap IntKind.u32 (Int.tdiv u7 2))) false (some []) [],Row.mk (some 224) none (int IntKind.u32 u7) false (some []) []] [(3,ref 0 0),(7,u12),(11,u4),(13,i6 x),(26,ref 1 0),(30,int IntKind.u32 u7),u11,(219,i6 u9),(220,i6 u5)] []) u3 g (ap bd) u3 g/\2<=2/\(∀(c:Nat),c<2->nth u6 c=ao (nth u8) 0 2 (List.brecOn (motive:=fun (x:List AV)=>Nat->AV) u6 nth._f) c)/\1<=2/\(∀(hp:List AObj) (g:R.σ),true=true/\Does Tryd.prog R 43 [u4,i6 u1] hp g (ret (AV.bool (Nat.testBit S (Int.toNat u1)))) hp g)/\((!Nat.testBit S (Int.toNat u1))=true->2<=2/\2<=2/\0<2/\(m2+1)*32<=aN/\m2+1<=aN/\2<=2/\m2*2<=m2*2/\(∀(c:Nat),c<(m2+1)*2->aJ (ws++[Rule.mk (ff p kk) bd]) c=bb 2 m2 (fun (i j:Nat)=>aJ ws (i*2+j)) (fun (i j:Nat)=>ao (fun (j:Nat)=>nth u8 (j%2)) 0 2 (List.brecOn (motive:=fun (x:List AV)=>Nat->AV) u6 nth._f) (0+i*2+j)) c)/\2<=2/\(∀(c:Nat),c<2->nth [u10,ow true 5 (m2+1) 2] c=ao (nth [u10,ow true 2 m2 2]) 1 1 (fun (x:Nat)=>ow true 5 (m2+1) 2) c)/\(-9223372036854775808<=u5+1/\u5+1<=9223372036854775807)/\Q AEx.normal (St.mk u2 [cO 2 (nth [u10,ae p.rules]),cO 2 (nth [u10,ow true 5 (m2+1) 2]),dead,cO 2 (nth u6),cO 2 (ao (fun (j:Nat)=>nth u8 (j%2)) 0 2 (List.brecOn (motive:=fun (x:List AV)=>Nat->AV) u6 nth._f)),cO ((m2+1)*2) (aJ (ws++[Rule.mk (ff p kk) bd]))] g))/\((!Nat.testBit S (Int.toNat u1))=false->(-9223372036854775808<=u5+1/\u5+1<=9223372036854775807)/\Q AEx.normal (St.mk u2 [cO 2 (nth [u10,ae p.rules]),cO 2 (nth [u10,ow true 2 m2 2]),cO (m2*2) (aJ ws),cO 2 (nth u6)] g)))/\(decide (u5<u9)=false->WpC Tryd.prog R 289 0 9 [1,1,1,1,1,1,1,1,1,1,1,1,1,0,1,0,0,1,0,1] Q [Kont.seq [1,1,1,1,1,1,1,1,1,1,1,1,1,0,1,0,0,1,1]] (St.mk [(3,ref 0 0),(7,u12),(11,u4),(13,i6 x),(26,ref 1 0),u11,(219,i6 u9),(220,i6 u5),(221,AV.bool (decide (u5<u9)))] u3 g))) (i6 (↑G:Int))) ((218,fz (fN b.k) 1 M fun i x=>int IntKind.u32 (List.getD b.l i 0)))) (i6 p.atoms)) ((↑M:Int))) ([i6 0,fz Fz.nil 0 0 fun x x_1=>any])) (List.getD b.l k 0)) ([i6 u1,ap bd])) ((↑k:Int))) (fz Fz.auto 1 (List.length (ai S).l) fun i x=>af (ai S).l i)) ([cO 2 (nth [i6 p.atoms,ae p.rules]),cO 2 (nth [i6 p.atoms,ow true 2 m2 2]),cO (m2*2) (aJ ws)])) ([(3,ref 0 0),(7,i6 (↑G:Int)),(11,fz Fz.auto 1 (List.length (ai S).l) fun i x=>af (ai S).l i),(13,i6 x),(26,ref 1 0),(218,fz (fN b.k) 1 M fun i x=>int IntKind.u32 (List.getD b.l i 0)),(219,i6 (↑M:Int)),(220,i6 ((↑k:Int)+1))])) (Int.tmod (IntKind.wrap i64 (IntKind.wrap IntKind.u32 (Int.tdiv (List.getD b.l k 0) 2))) p.atoms)) ⟨fun _=>⟨omg,omg,omg,omg,omg,omg,?_,omg,(fun c hc=>match c,hc with|0,_=>krf|1,_=>krf ),omg,(fun _ _=>⟨rfl,(hCi _ ?_ ?_ _ _ _)⟩),fun c1=>have c1:Nat.testBit S (Int.toNat (Int.tmod (IntKind.wrap i64 (IntKind.wrap IntKind.u32 (Int.tdiv (List.getD b.l k 0) 2))) p.atoms))=false:=((Bool.not_eq_true' _).mp c1);⟨omg,omg,omg,omg,omg,omg,omg,?_,omg,(fun c hc=>match c,hc with|0,_=>krf|1,_=>krf ),omg,?_⟩,fun c1=>have c1:Nat.testBit S (Int.toNat (Int.tmod (IntKind.wrap i64 (IntKind.wrap IntKind.u32 (Int.tdiv (List.getD b.l k 0) 2))) p.atoms))=true:=((Bool.not_eq_false' _).mp c1);⟨omg,?_⟩⟩,fun hcc=>(nomatch (hcl4.symm.trans hcc))⟩
         ·subst hbd
          rw[hkk]
          exact b8 (n:=1) (es:=2) krf (by exact⟨⟨⟨trivial,trivial⟩,trivial⟩,trivial⟩) rfl rfl (fun i hi j hj=>match i,hi,j,hj with|0,_,0,_=>krf|0,_,1,_=>krf ) (fun i hi j hj=>match i,hi,j,hj with|0,_,0,_=>trivial|0,_,1,_=>trivial )
         ·rw[hkk]
          exact hhd.1
         ·rw[hkk]
          exact hhd.2
         ·intro j hj
          rw[hkk]
          rw[hm2] at hj ⊢
          exact(lO (r:=⟨ff p kk,bd⟩) (z:=fun j=>nth [.int .i64 0,.fz .nil 0 0 fun _ _=>.any] (j%2)) hj).trans krf
         ·refine(aW (k+1,m2+1,ws++[⟨ff p kk,bd⟩]) (toS [0,1,5] 6 (hob:=⟨⟨rfl,Nat.le_refl _,fun j hj=>match j,hj with|0,_=>(AM _)|1,_=>(AM _) ⟩,⟨rfl,Nat.le_refl _,fun j hj=>match j,hj with|0,_=>(AM _)|1,_=>(AM _) ⟩,⟨by first|rfl|(simp;done),by first|exact Nat.le_refl _|(simp;done)|(simp;omega),fun j hj=>(by first|exact bp (by first|exact trivial|apply f7)|exact AN (iB rfl).symm)⟩,trivial⟩)) ?_ ?_)
          ·refine⟨by show k+1<=_;omega,?_,?_⟩
           ·show m2+1=(ws++[_]).length
            rw[List.length_append,<-hm2]
            rfl
           ·rw[hkk] at c1
            exact hN.more hnb c1
          ·show M-(k+1)<M-k
           omega
         ·refine(aW (k+1,m2,ws) (toS [0,1,2] 4 (hob:=⟨⟨rfl,Nat.le_refl _,fun j hj=>match j,hj with|0,_=>(AM _)|1,_=>(AM _) ⟩,⟨rfl,Nat.le_refl _,fun j hj=>match j,hj with|0,_=>(AM _)|1,_=>(AM _) ⟩,⟨by first|rfl|(simp;done),by first|exact Nat.le_refl _|(simp;done)|(simp;omega),fun j hj=>(by first|exact bp (by first|exact trivial|apply f7)|exact AN (iB rfl).symm)⟩,trivial⟩)) ?_ ?_)
          ·refine⟨by show k+1<=_;omega,hm2,?_⟩
           exact⟨hN.al,hN.has,by show ws.length<=m1+(k+1);omega⟩
          ·show M-(k+1)<M-k
           omega
        ·obtain rfl:k=M:=by omega
         have hcl4:decide ((k:Int)<(k:Int))=false:=decide_eq_false omg
         subst hm2
         refine cp (rd 2 [(3,.ref 0 0),(7,.int .i64 G),(11,ah (ai S)),(13,.int .i64 x),(26,.ref 1 0),(218,.fz (fN b.k) 1 k (fun i _=>.int .u32 (b.l.getD i 0))),(219,.int .i64 k),(220,.int .i64 k)] [cO 2 (nth [.int .i64 p.atoms,ae p.rules]),cO 2 (nth [.int .i64 p.atoms,ae ⟨ws,.auto⟩])] omg (by show 2<=3;omega) rfl (fun i hi=>?_) ⟨AU (show 0<2 by omega),AU trivial,AU trivial,AU trivial,AU (show 1<2 by omega),AU trivial,AU trivial,AU trivial,trivial⟩) ?_
         ·match i,hi with
          |0,_=>exact⟨rfl,rfl,fun j hj=>match j,hj with|0,_=>AU trivial|1,_=>AU trivial⟩
          |1,_=>exact⟨rfl,rfl,fun j hj=>match j,hj with|0,_=>AU trivial|1,_=>At (o:=2) rfl (Nat.le_refl _)⟩
         obtain⟨q,hqd⟩:∃q:Prg,q=⟨p.atoms,ws,.auto⟩:=⟨_,rfl⟩
         have hqb:aD q=true:=by
          rw[hqd]
          unfold aD
          simp only[Bool.and_eq_true,decide_eq_true_eq,List.all_eq_true]
          have:=hN.len
          exact⟨hp',by show ws.length<=40;omega,fun r h=>(hN.al r h).1⟩
         obtain⟨hql,hqr,hqp,hqh,hqx⟩:=eK hqb
         have hmc:fM q S:=fun r h hs=>by
          rw[hqd] at h
          rcases(hN.al r h).2 with h1|h1
          ·exact hSc r h1 hs
          ·rw[h1] at hs
           cases hs
         have hmd:Mod p q S:=⟨hp,hr,hh,hqp,hqr,hqh,by rw[hqd],hSc,hmc,fun r hs=>by
          rw[hqd]
          refine⟨fun h=>hN.has r h hs,fun h=>?_⟩
          rcases(hN.al r h).2 with h1|h1
          ·exact h1
          ·rw[h1] at hs
           cases hs⟩
         have hqa:q.atoms=p.atoms:=by rw[hqd]
         have e1:(am q).2 G=x:=by rw[hxG,<-hv];exact(mh hmd hSG).symm
         have e2:(am (ar q (hgP q G))).2 G=x:=by
          rw[<-e1]
          exact mh (mi hqp hqr hqh (tq hqr omg)) ((dj hqr omg).2 (.refl _))
         obtain⟨AQ,hAQ⟩:∃AQ,cu (hgP q G) (aT (hgP q G) q.rules.l 0) (am (ar q (hgP q G))).1=AQ:=⟨_,rfl⟩
         obtain⟨LQ,hLQ⟩:∃LQ,bv (am q).1=LQ:=⟨_,rfl⟩
         obtain⟨VQ,hVQ⟩:∃VQ,cK q (am q).2=VQ:=⟨_,rfl⟩
         have hqf:=oW hqp hqr hqh
         have hVQl:VQ.l.length=c:=by rw[<-hVQ];unfold cK;simp[hqa,hn]
         have hVQg:∀j,j<c->VQ.l.getD j 0=(am q).2 j:=fun j hj=>by
          rw[<-hVQ]
          unfold cK
          rw[List.getD_eq_getElem?_getD,List.getElem?_map,List.getElem?_range omg]
          rfl
         have hAQn:∀(R:Res) [Tab LT R] (g:R.σ),Does Tryd.prog R 25 [aw q,.int .i64 G] [] g (.ret (.tup 3 (nth [.int .i64 x,ax AQ,.int .i64 0]))) [] g:=fun R _ g=>by
          have h:=oL R q G hqb omg g
          rw[Int.toNat_natCast,e2,hAQ] at h
          exact h
         have hDQ:∀(R:Res) [Tab LT R] (g:R.σ),Does Tryd.prog R 17 [aw q] [] g (.ret (.tup 3 (nth [ax LQ,ah VQ,.int .i64 0]))) [] g:=fun R _ g=>by
          have h:=oA R q hqb g
          rw[hLQ,hVQ] at h
          exact h
         have hFq:∀(R:Res) (hp:List AObj) (g:R.σ),Does Tryd.prog R 36 [aw q,ah VQ] hp g (.ret (.bool true)) hp g:=fun R hp g=>tf R q VQ omg (fun y hy=>by
          obtain⟨j,hj,rfl⟩:=List.getElem_of_mem hy
          have e:VQ.l[j]=VQ.l.getD j 0:=by rw[List.getD_eq_getElem?_getD,List.getElem?_eq_getElem hj];rfl
          rw[e,hVQg j omg]
          rcases hqf.dom j with e|e|e <;> omega) hp g
         have hgv:VQ.l.getD G 0=x:=by rw[hVQg G omg,e1]
         simp only[hqd] at hAQn hDQ hFq
         clear hAn hD hFo
         refine vcR [[1,1,1,1,1,1,1,1,1,1,1,1,1,0,1,0,0,1,0,0]] (lkL [(38,[3,7,11,13,26,218,219,220,221])]) (fun _=>[]) (fun Q=>(fun (u1:St R.σ)=>(fun (u2:Int)=>(decide (u2<u2)=true->WpC Tryd.prog R 289 0 9 [1,1,1,1,1,1,1,1,1,1,1,1,1,0,1,0,0,1,0,0] Q [Kont.seq [1,1,1,1,1,1,1,1,1,1,1,1,1,0,1,0,0,1,1]] u1)/\(decide (u2<u2)=false->Q (AEx.exit 8) u1)) ((↑k:Int))) (St.mk [(3,ref 0 0),(7,i6 (↑G:Int)),(11,fz Fz.auto 1 (List.length (ai S).l) fun i x=>af (ai S).l i),(13,i6 x),(26,ref 1 0),(218,fz (fN b.k) 1 k fun i x=>int IntKind.u32 (List.getD b.l i 0)),(219,i6 (↑k:Int)),(220,i6 (↑k:Int)),(221,AV.bool (decide ((↑k:Int)<(↑k:Int))))] [cO 2 (nth [i6 p.atoms,ae p.rules]),cO 2 (nth [i6 p.atoms,fz Fz.auto 2 (List.length ws) fun i=>br (List.getD ws i default)])] g)) ⟨fun hcc=>(nomatch (hcl4.symm.trans hcc)),fun _=>?_⟩
         refine⟨_,A0 _,vcR [] (lkL [(44,[7,13,26,32,34]),(45,[7,13,26,32,34,36,37]),(46,[6])]) (lkL [(44,[(2,ROrc.kcall (tup 3 (nth [i6 x,ax AQ,i6 0])))]),(45,[(1,ROrc.kcall (tup 3 (nth [ax LQ,fz VQ.2 1 (List.length VQ.l) fun (i x:Nat)=>af VQ.l i,i6 0])))]),(46,[(9,ROrc.pcall (AV.bool true)),(25,ROrc.kcall (AV.bool true))])]) (fun Q=>(fun (u1:List AObj)=>(fun (u2:AV)=>(fun (u3:Bool)=>(fun (u4:AV)=>2<=2/\(true=true/\Does Tryd.prog R 25 [u2,i6 (↑G:Int)] u1 g (ret (tup 3 (nth [i6 x,ax AQ,i6 0]))) u1 g)/\2<=2/\(true=true/\Does Tryd.prog R 17 [u2] u1 g (ret (tup 3 (nth [ax LQ,u4,i6 0]))) u1 g)/\(true=true->2<=2)/\(true=true->∀(hp:List AObj) (g:R.σ),true=true/\Does Tryd.prog R 36 [u2,u4] hp g (ret (AV.bool true)) hp g)/\(u3=true->0<=(↑G:Int)/\(↑G:Int)<(↑(List.length VQ.l):Int))/\(u3=true->1<=1)/\((bif u3 then List.getD VQ.l G 0==x else false)=true->true=true/\Does Tryd.prog R 15 [] u1 g (ret (AV.bool true)) u1 g)/\Q AEx.ret (St.mk [(6,AV.bool (bif bif u3 then List.getD VQ.l G 0==x else false then true else false))] u1 g)) (fz VQ.2 1 (List.length VQ.l) fun i x=>af VQ.l i)) (bif true then x==x else false)) (agg 2 (nth [i6 p.atoms,fz Fz.auto 2 (List.length ws) fun i=>br (List.getD ws i default)]))) ([cO 2 (nth [i6 p.atoms,ae p.rules]),cO 2 (nth [i6 p.atoms,fz Fz.auto 2 (List.length ws) fun i=>br (List.getD ws i default)])])) ⟨omg,⟨rfl,(doT (T:=LT) [] 2 (fun R _ g=>hAQn R g))⟩,omg,⟨rfl,(doT (T:=LT) [] 2 (fun R _ g=>hDQ R g))⟩,omg,(fun hgd=>(fun _ _=>⟨rfl,(hFq _ _ _)⟩)),omg,omg,(fun hgd=>⟨rfl,(doT (T:=LT) [] 2 (fun R _ g=>s9 R g))⟩),?_⟩⟩
         rw[hgv,show(x==x)=true from beq_self_eq_true x]
         refine(av (bE _ _ rfl trivial trivial rfl) (AM _))
def QN2 (x:KL Int):Prop:=QU x/\x.l.length<=9223372036854775807
def QB (n:Int):Prop:=0<=n/\n<256
def mm (n:Int):AV:=.int .u8 n
theorem Az:Rea Tryd.prog 60 1 QN2 (fun x _=>bf x):=
 Rea.map (ny Tryd.underlying60 krf omg (jL Tryd.underlying65)) oS (fun x h=>⟨fun v hv=>by
  have:=h.1 v hv
  simp[Lit.wf,IntKind.min,IntKind.max,IntKind.signed,IntKind.bits] at this
  omega,h.2⟩) (fun x j hj=>rfl)
theorem AA:Arg Tryd.prog 60 QN2 bf:=v6 Tryd.underlying60 Az
theorem AB:Rea Tryd.prog 5 1 QB (fun n _=>mm n):=
 Rea.map (jL Tryd.underlying5) (fun n:Int=>n) (fun n h=>by
  simp[Lit.wf,IntKind.min,IntKind.max,IntKind.signed,IntKind.bits] at h
  exact⟨h.1,omg⟩) (fun _ _ _=>rfl)
theorem AC:Arg Tryd.prog 5 QB mm:=v7 Tryd.underlying5 AB
theorem AD (R:Res)[Tab LT R](p:Prg)(m:Int)(b:KL Int)(g:R.σ)(hm:QB m)(hq:QN2 b):Does Tryd.prog R 9 [aw p,mm m,bf b] [] g (.ret (.bool true)) [] g:=Ay R p m b hm hq.1 hq.2 g
end Go.Avm.Pack
namespace Go.Proofs.YtbdagmhndndliaaDoor
open Go Go.Avm Go.Avm.Pack Go.WideShapes Go.ChangeShapes Go.ChangeAt
def AE (cs:Array Value):Obj->Obj
 |.cells _ t frozen=>.cells cs t frozen
 |o=>o
noncomputable def pd (os:Os):World:=
 { World.holding Tryd.prog os ⟨#[],#[],[]⟩ with heap:=(World.holding Tryd.prog os ⟨#[],#[],[]⟩).heap.modify 0 (AE #[.int .u8 0,.int .u8 1,.int .u8 56,.int .u8 2,.int .u8 57,.int .u8 49,.int .u8 28,.int .u8 3,.int .u8 61,.int .u8 58,.int .u8 42,.int .u8 50,.int .u8 38,.int .u8 29,.int .u8 17,.int .u8 4,.int .u8 62,.int .u8 47,.int .u8 59,.int .u8 36,.int .u8 45,.int .u8 43,.int .u8 51,.int .u8 22,.int .u8 53,.int .u8 39,.int .u8 33,.int .u8 30,.int .u8 24,.int .u8 18,.int .u8 12,.int .u8 5,.int .u8 63,.int .u8 55,.int .u8 48,.int .u8 27,.int .u8 60,.int .u8 41,.int .u8 37,.int .u8 16,.int .u8 46,.int .u8 35,.int .u8 44,.int .u8 21,.int .u8 52,.int .u8 32,.int .u8 23,.int .u8 11,.int .u8 54,.int .u8 26,.int .u8 40,.int .u8 15,.int .u8 34,.int .u8 20,.int .u8 31,.int .u8 10,.int .u8 25,.int .u8 14,.int .u8 19,.int .u8 9,.int .u8 13,.int .u8 8,.int .u8 7,.int .u8 6]) }
theorem AF (os:Os):laidMet Tryd.prog Rows.tableModularRow.laid ((pd os).forCall (fun _ _=>0) ⟨#[],#[.agg #[.int .i64 0,.slice none 0 0],.int .u8 0,.slice none 0 0],[]⟩).memory:=
 laidMet_of_run' 8 (by kernel_rfl) (by kernel_rfl)
theorem AG (os:Os){H:Type}(enc:TypeId × Value->H):∃places,DataW.whole enc Tryd.prog ((pd os).forCall (fun _ _=>0) ⟨#[],#[.agg #[.int .i64 0,.slice none 0 0],.int .u8 0,.slice none 0 0],[]⟩).memory Tryd.f9.params.toList Rows.tableModularSpec.vars false (#[.agg #[.int .i64 0,.slice none 0 0],.int .u8 0,.slice none 0 0]:Array Value).toList 8=some ([.agg [.lit (.int .i64 0),.nil],.lit (.int .u8 0),.nil],[],places):=
 ⟨[],by kernel_rfl⟩
theorem AH (W:World)(h:laidMetH Tryd.prog Rows.tableModularRow.laid W):cU gsT (dq W):=by
 have h:laidMet Tryd.prog [("math/bits.deBruijn64tab",Lib.tabData .u8 gN)] W:=h
 exact wi (t:=164) (e:=5) (n:=64) (by kernel_rfl) (by kernel_rfl) Tryd.underlying164 Tryd.underlying5 (by kernel_rfl) (by kernel_rfl) h (fun _=>wh)
set_option maxRecDepth 100000 in
theorem AI (os:Os)(started:os.Started)(H:Type)(enc:TypeId × Value->H)(F:Stop.Interp) :
  ReturnsInHanded {} Tryd.checked os 9 .any ((OpenSpec.ofChange Rows.tableModularSpec).preRow enc Tryd.prog Tryd.f9 Rows.tableModularRow.domain Rows.tableModularRow.apart Rows.tableModularRow.laid) (((OpenSpec.ofChange Rows.tableModularSpec).at F).post enc Tryd.prog Tryd.f9 Rows.tableModularRow.apart Rows.tableModularRow.fresh Rows.tableModularRow.handsOn Rows.tableModularRow.again):=by
 obtain⟨places,hx⟩:=AG os enc
 exact wj (C:=Tryd.checked) (s:=Rows.tableModularSpec) (tb:=4) (gs:=gsT) (X:=fun l=>∃a:Prg,True/\∃l',(∃b:Int,QB b/\∃l'',(∃c:KL Int,QN2 c/\∃l''',(l'''=[])/\l''=bf c::l''')/\l'=mm b::l'')/\l=aw a::l') (by kernel_rfl) started (by kernel_rfl) Tryd.func9
  (witness_row_at (enc:=enc) (C:=Tryd.checked) false (pd os) #[.agg #[.int .i64 0,.slice none 0 0],.int .u8 0,.slice none 0 0] rfl (by kernel_rfl) (by kernel_rfl) (by kernel_rfl)
   (OpenSpec.preRow_of_cond 8 hx (by kernel_rfl) (fun k hk=>by cases hk) (by kernel_rfl) (AF os)))
  rfl (fun ds h=>by
   match ds,h with
   |[_,_,_],_=>rfl) (by kernel_rfl)
  (fun t ht=>by
   have ht:t∈([24,5,60]:List Nat):=ht
   simp only[List.mem_cons,List.not_mem_nil,or_false] at ht
   rcases ht with rfl|rfl|rfl <;> exact⟨by kernel_rfl,of_decide_eq_true (by kernel_rfl)⟩) rfl Tryd.underlying4 AH
  ((nz zS (nz AC (nz AA v9))))
  (fun avs ⟨a,ha,_,⟨b,hb,_,⟨c,hc,_,e0,e1⟩,e2⟩,e3⟩=>by
   subst e0 e1 e2 e3
   exact AD (Res.tab gsT) a b c () hb hc)
theorem AJ:Rows.TableModularSaid:=
 OpenClaim.holds_of_cond 9 Tryd.f9 rfl rfl rfl rfl rfl rfl rfl ⟨rfl,rfl,rfl,rfl,rfl⟩ rfl rfl rfl rfl rfl (by kernel_rfl) Tryd.func9 (by kernel_rfl)
  (of_decide_eq_true (by kernel_rfl)) (by unfold Func.isWrapper;first|(rw[if_pos (by decide +kernel)];kernel_rfl)|(rw[if_neg (by decide +kernel)];exact⟨rfl,rfl⟩))
  (fun os started H enc _ F=>by rw[OpenClaim.pre_eq_preRow];exact AI os started H enc F)
theorem AK (f:FuncId)(fn:Func)(hf:Tryd.pinned.checked.prog.funcNamed "swingle/swinglelaw18.TableModular"=some f)(hfn:Tryd.pinned.checked.prog.funcs[f]? = some fn) :
  true=Tryd.pinned.checked.prog.looks []/\∀(j:Nat) t,fn.params[j]? = some t->Tryd.pinned.checked.prog.wantsStandIn t=false:=by
 obtain rfl:f=9:=Option.some.inj ((show Tryd.prog.funcNamed "swingle/swinglelaw18.TableModular"=some 9 by kernel_rfl).symm.trans hf) |>.symm
 obtain rfl:fn=Tryd.f9:=(Option.some.inj (Tryd.func9.symm.trans hfn)).symm
 refine⟨by kernel_rfl,fun j t ht=>?_⟩
 have hm:t∈(Tryd.f9.params).toList:=Array.mem_toList_iff.2 (Array.mem_of_getElem? ht)
 have hm:t∈([24,5,60]:List Nat):=hm
 simp only[List.mem_cons,List.not_mem_nil,or_false] at hm
 rcases hm with rfl|rfl|rfl
 ·exact(show Tryd.prog.wantsStandIn 24=false by kernel_rfl)
 ·exact(show Tryd.prog.wantsStandIn 5=false by kernel_rfl)
 ·exact(show Tryd.prog.wantsStandIn 60=false by kernel_rfl)
theorem tableModular_holds:Rows.TableModularCardSaid:=
 Claim7.holds_tied_plain_at .later [] _ _ _ _ AJ (fun _ h=>by cases h) (by kernel_rfl) (fun _ h=>by cases h) tableModular_row_tie rfl ⟨rfl,rfl⟩ (by kernel_rfl) rfl AK (by kernel_rfl)
#print axioms tableModular_holds
end Go.Proofs.YtbdagmhndndliaaDoor
