/- Part 5 of the proof: lemmas. -/
import Derived.Test.YtbdagmhndndliaaDoorM4
namespace Go.Avm.Pack
open Go Go.Avm Go.Proofs
open Go.IntKind (i64 u64)
open Go.Avm.AV (int bool any fz fp sl ow ref fn ifc val agg tup)
open Go.Avm.AObj (cells dead)
open Go.Avm.Oc (ret)
set_option maxRecDepth 4000
def badA (v:List Int)(l:List Int)(i:Nat):Bool:=bif (bif !decide (0<=l.getD i 0/\l.getD i 0<=(v.length:Int)-1) then true else v.getD (l.getD i 0).toNat 0 != 3) then true else bif decide ((i:Int) > 0) then decide (l.getD i 0<=l.getD ((i:Int)-1).toNat 0) else false
def dY (v:List Int)(l:List Int)(n:Nat):Bool:=(List.range n).any (badA v l)
theorem yz {v l:List Int}{n:Nat}:dY v l (n+1)=(dY v l n||badA v l n):=by
 unfold dY
 rw[List.range_succ,List.any_append]
 simp
theorem sb {v l:List Int}{n i:Nat}(hi:i<n)(h:badA v l i=true):dY v l n=true:=
 List.any_eq_true.2 ⟨i,List.mem_range.2 hi,h⟩
def j3 (v:List Int)(p:Prg)(s:Step):Bool:=bif (bif (bif decide (0<=s.rule/\s.rule<=(p.rules.l.length:Int)-1) then(s.atoms.l.length:Int)==1 else false) then s.atoms.l.getD 0 0==(p.rules.l.getD s.rule.toNat default).head else false) then ew v (p.rules.l.getD s.rule.toNat default) else false
theorem yA {n:Nat}{l:List Rule}(h:∀r,r∈l->ge n r)(i:Nat):iC n (l.getD i default):=by
 rcases Nat.lt_or_ge i l.length with hi|hi
 ·exact(h _ (ek hi)).1
 ·rw[List.getD_eq_getElem?_getD,List.getElem?_eq_none hi]
  exact⟨dcd,fun l h=>(by cases h)⟩
def cz (n:Nat)(l:List Int):List Bool:=l.foldl (fun b a=>b.set a.toNat true) (List.replicate n false)
theorem yB {n:Nat}{l:List Int}{i:Nat}(h:i<l.length):cz n (l.take (i+1))=(cz n (l.take i)).set (l.getD i 0).toNat true:=by
 unfold cz
 rw[List.take_add_one,List.foldl_append,List.getElem?_eq_getElem h,List.getD_eq_getElem?_getD,List.getElem?_eq_getElem h]
 rfl
theorem sc:∀{l:List Int} {b:List Bool},(l.foldl (fun (b:List Bool) (a:Int)=>b.set a.toNat true) b).length=b.length
 |[],_=>rfl
 |a::l,b=>by
  show(l.foldl _ (b.set a.toNat true)).length=_
  rw[sc,List.length_set]
theorem sd {n:Nat}{l:List Int}:(cz n l).length=n:=by
 unfold cz
 rw[sc,List.length_replicate]
theorem yC {b:List Bool}{a:Nat}(ha:a<b.length){c:Nat}:aj (bF b) a 1 (fun _=>.bool true) c=bF (b.set a true) c:=by
 rw[cS]
 unfold bF
 rw[List.getD_eq_getElem?_getD,List.getD_eq_getElem?_getD,List.getElem?_set]
 by_cases h:a=c
 ·subst h
  rw[if_pos omg,if_pos rfl,if_pos ha]
  rfl
 ·rw[if_neg omg,if_neg h]
theorem yD {n j:Nat}:bF (cz n []) j=.bool false:=by
 show AV.bool _=_
 congr 1
 show(List.replicate n false).getD j false=false
 rw[List.getD_eq_getElem?_getD,List.getElem?_replicate]
 split <;> rfl
theorem se {v l:List Int}{n i:Nat}(h:dY v l n=false)(hi:i<n):0<=l.getD i 0/\l.getD i 0<v.length:=by
 have hb:badA v l i=false:=by
  cases hc:badA v l i with
  |false=>rfl
  |true=>rw[sb hi hc] at h;cases h
 unfold badA at hb
 by_cases hd:0<=l.getD i 0/\l.getD i 0<=(v.length:Int)-1
 ·omega
 ·rw[decide_eq_false hd] at hb
  cases hb
def iF (v:List Int)(p:Prg)(s:Step):Bool:=bif decide ((s.atoms.l.length:Int) > 0) then ey v (cz v.length s.atoms.l) p else false
theorem sf (R:Res)(v:List Int)(p:Prg)(s:Step)(hv:0<v.length/\v.length<1000000)(hpa:p.atoms=v.length)(hl:s.atoms.l.length<1000000)(hpl:p.rules.l.length<1000000)(hr:∀r,r∈p.rules.l->ge v.length r)(g:R.σ):Does Tryd.prog R 69 [.ow true 0 v.length 1,av p,aY s] [.cells false (v.length*1) (ac v)] g (.ret (.bool (!dY v s.atoms.l s.atoms.l.length&&(if s.rule = -1 then iF v p s else j3 v p s)))) [.cells false (v.length*1) (ac v)] g:=by
 have hroom:aB=140737488355328:=rfl
 refine spW (nt:=123) (rs:=[.tmp 6]) (k0:=1) ?_
 refine vcR [] (lkL [(0,[0,4,5]),(1,[0,4,5,7])]) (fun _=>[]) (fun (Q:AEx->St R.σ->Prop)=>WpC Tryd.prog R 123 1 69 [1,0,1,0] Q [Kont.blk 0,Kont.seq [1,1]] (St.mk [(0,ow true 0 (List.length v) 1),(4,ref 1 0),(5,ref 2 0),(7,int i64 0)] [cells false (List.length v*1) fun (a:Nat)=>ac v a,cells false 2 (nth [int i64 p.atoms,af p.rules]),cells false 2 (nth [int i64 s.rule,fz s.atoms.2 1 (List.length s.atoms.l) fun (i x:Nat)=>ac s.atoms.l i])] g)) (?_)
 refine(aX krf (fun (i:Nat)=>⟨[(0,ow true 0 (v.length) 1),(4,ref 1 0),(5,ref 2 0),(7,.int .i64 i)],[cells false (v.length*1) fun (a:Nat)=>ac v a,cells false 2 (nth [int i64 p.atoms,af p.rules]),cells false 2 (nth [int i64 s.rule,fz s.atoms.2 1 (s.atoms.l.length) fun (i x:Nat)=>ac s.atoms.l i])],g⟩) (fun (i:Nat)=>(i<=s.atoms.l.length/\dY v s.atoms.l i=false)) (fun (i:Nat)=>(s.atoms.l.length-i)) 0 (aT ⟨zT _,zT _,zT _,(zU krf),trivial⟩ rfl rfl) ?_ (fun i hi=>?_))
 ·exact⟨Nat.zero_le _,rfl⟩
 ·obtain⟨h2,h3⟩:=hi
  rcases Nat.lt_or_ge i s.atoms.l.length with hlt|hge
  ·refine vcR [] (lkL [(2,[0,4,5,7,14]),(4,[0,4,5,7,55]),(5,[6]),(3,[0,4,5,7])]) (lkL [(4,[(8,ROrc.pcall (AV.bool (decide (0<=List.getD s.atoms.l i 0/\List.getD s.atoms.l i 0<=p.atoms-1))))])]) (fun Q=>(fun (u1:Int)=>(fun (u2:Bool)=>(fun (u3:List AObj)=>(fun (u4:Int)=>(fun (u5:Int)=>(fun (u6:Bool)=>(fun (u7:Bool)=>2<=2/\(decide (u5<u4)=true->Flw Tryd.prog/\2<=2/\(0<=u5/\u5<u4)/\1<=1/\1<=2/\(-9223372036854775808<=p.atoms-1/\p.atoms-1<=9223372036854775807)/\(∀(hp:List AObj) (g:R.σ),true=true/\Does Tryd.prog R 62 [ac s.atoms.l i,int i64 0,int i64 (p.atoms-1)] hp g (ret (AV.bool u6)) hp g)/\((!!u6)=true->2<=2)/\((!!u6)=true->0<=u5/\u5<u4)/\((!!u6)=true->1<=1)/\((!!u6)=true->0<=u1/\u1<(↑(List.length v):Int))/\((!!u6)=true->Int.toNat u1+1<=List.length v*1)/\(u2=true->2<=2)/\(u2=true->0<=u5/\u5<u4)/\(u2=true->1<=1)/\(u2=true->2<=2)/\(u2=true -> -9223372036854775808<=u5-1/\u5-1<=9223372036854775807)/\(u2=true->0<=u5-1/\u5-1<u4)/\(u2=true->1<=1)/\(u7=true->Q AEx.ret (St.mk [(6,AV.bool false)] u3 g))/\(u7=false->(-9223372036854775808<=u5+1/\u5+1<=9223372036854775807)/\Q AEx.normal (St.mk [(0,ow true 0 (List.length v) 1),(4,ref 1 0),(5,ref 2 0),(7,int i64 (u5+1))] u3 g)))/\(decide (u5<u4)=false->Q (AEx.exit 0) (St.mk [(0,ow true 0 (List.length v) 1),(4,ref 1 0),(5,ref 2 0),(7,int i64 u5),(14,AV.bool (decide (u5<u4)))] u3 g))) (bif bif !u6 then true else List.getD v (Int.toNat u1) 0 != 3 then true else bif decide (u5 > 0) then decide (u1<=List.getD s.atoms.l (Int.toNat (u5-1)) 0) else false)) (decide (0<=u1/\u1<=p.atoms-1))) ((↑i:Int))) ((↑(List.length s.atoms.l):Int))) ([cells false (List.length v*1) fun a=>ac v a,cells false 2 (nth [int i64 p.atoms,af p.rules]),cells false 2 (nth [int i64 s.rule,fz s.atoms.2 1 (List.length s.atoms.l) fun i x=>ac s.atoms.l i])])) ((!bif !decide (0<=u1/\u1<=p.atoms-1) then true else List.getD v (Int.toNat u1) 0 != 3)&&decide ((↑i:Int) > 0))) (List.getD s.atoms.l i 0)) ⟨omg,fun c1=>have c1:(↑i:Int)<(↑(List.length s.atoms.l):Int):=(of_decide_eq_true c1);⟨krf,omg,omg,omg,omg,omg,(fun _ _=>⟨rfl,(iw _ _ _ _ _ _)⟩),omg,omg,omg,(by intro h;simp at h <;> simp <;> omega),(by intro h;simp at h <;> simp <;> omega),omg,omg,omg,omg,omg,(by intro h;simp at h <;> omega),omg,fun c2=>have c2:(¬(0<=List.getD s.atoms.l i 0/\List.getD s.atoms.l i 0<=p.atoms-1)∨¬List.getD v (Int.toNat (List.getD s.atoms.l i 0)) 0=3)∨(↑i:Int) > 0/\List.getD s.atoms.l i 0<=List.getD s.atoms.l (Int.toNat ((↑i:Int)-1)) 0:=((dR c2).imp (fun h=>((dR h).imp (fun h=>(of_decide_eq_false ((Bool.not_eq_true' _).mp h))) (fun h=>(bne_iff_ne.mp h)))) (fun h=>⟨(of_decide_eq_true (cw h).1),(of_decide_eq_true (cw h).2)⟩));?_,fun c2=>have c2:((0<=List.getD s.atoms.l i 0/\List.getD s.atoms.l i 0<=p.atoms-1)/\List.getD v (Int.toNat (List.getD s.atoms.l i 0)) 0=3)/\(¬(↑i:Int) > 0∨¬List.getD s.atoms.l i 0<=List.getD s.atoms.l (Int.toNat ((↑i:Int)-1)) 0):=⟨⟨(of_decide_eq_true ((Bool.not_eq_false' _).mp (bE (bE c2).1).1)),(bne_eq_false_iff_eq.mp (bE (bE c2).1).2)⟩,((eY (bE c2).2).imp (fun h=>(of_decide_eq_false h)) (fun h=>(of_decide_eq_false h)))⟩;⟨omg,?_⟩⟩,fun c1=>have c1:¬(↑i:Int)<(↑(List.length s.atoms.l):Int):=(of_decide_eq_false c1);?_⟩
   ·rename_i e2
    have hf:badA v s.atoms.l i=true:=by
     rw[hpa] at e2
     exact e2
    rw[sb hlt hf]
    refine⟨_,z6 _,(aq (bg 1 _ _ rfl trivial omg trivial ⟨(fun _ _=>trivial),trivial⟩ krf rfl rfl) (zU krf))⟩
   ·rename_i e2
    have hf:badA v s.atoms.l i=false:=by
     rw[hpa] at e2
     exact e2
    refine(aQ (i+1) (aT ⟨zT _,zT _,zT _,(zU krf),trivial⟩ rfl rfl) ?_ ?_)
    ·exact⟨omg,by rw[yz,h3,hf];rfl⟩
    ·omega
   ·exfalso;omega
  ·have hie:i=s.atoms.l.length:=by omega
   subst hie
   rw[h3]
   refine vcR [] (lkL [(2,[0,4,5,7,14]),(4,[0,4,5,7,55]),(5,[6]),(3,[0,4,5,7])]) (lkL [(4,[(8,ROrc.pcall (AV.bool (decide (0<=List.getD s.atoms.l (List.length s.atoms.l) 0/\List.getD s.atoms.l (List.length s.atoms.l) 0<=p.atoms-1))))])]) (fun Q=>(fun (u1:Int)=>(fun (u2:Int)=>(fun (u3:Bool)=>(fun (u4:List AObj)=>(fun (u5:Bool)=>(fun (u6:Int)=>(fun (u7:Bool)=>(fun (u8:Bool)=>2<=2/\(decide (u2<u2)=true->Flw Tryd.prog/\2<=2/\(0<=u2/\u2<u2)/\1<=1/\1<=2/\(-9223372036854775808<=p.atoms-1/\p.atoms-1<=9223372036854775807)/\(∀(hp:List AObj) (g:R.σ),true=true/\Does Tryd.prog R 62 [ac s.atoms.l (List.length s.atoms.l),int i64 0,int i64 (p.atoms-1)] hp g (ret (AV.bool u5)) hp g)/\((!!u5)=true->2<=2)/\((!!u5)=true->0<=u2/\u2<u2)/\((!!u5)=true->1<=1)/\((!!u5)=true->0<=u1/\u1<(↑(List.length v):Int))/\((!!u5)=true->Int.toNat u1+1<=List.length v*1)/\(u7=true->2<=2)/\(u7=true->0<=u2/\u2<u2)/\(u7=true->1<=1)/\(u7=true->2<=2)/\(u7=true -> -9223372036854775808<=u2-1/\u2-1<=9223372036854775807)/\(u7=true->0<=u2-1/\u2-1<u2)/\(u7=true->1<=1)/\(u8=true->Q AEx.ret (St.mk [(6,AV.bool false)] u4 g))/\(u8=false->(-9223372036854775808<=u2+1/\u2+1<=9223372036854775807)/\Q AEx.normal (St.mk [(0,ow true 0 (List.length v) 1),(4,ref 1 0),(5,ref 2 0),(7,int i64 (u2+1))] u4 g)))/\(decide (u2<u2)=false->Q (AEx.exit 0) (St.mk [(0,ow true 0 (List.length v) 1),(4,ref 1 0),(5,ref 2 0),(7,int i64 u2),(14,AV.bool (decide (u2<u2)))] u4 g))) (bif u3 then true else bif decide (u2 > 0) then decide (u1<=u6) else false)) (!u3&&decide (u2 > 0))) (List.getD s.atoms.l (Int.toNat (u2-1)) 0)) (decide (0<=u1/\u1<=p.atoms-1))) ([cells false (List.length v*1) fun a=>ac v a,cells false 2 (nth [int i64 p.atoms,af p.rules]),cells false 2 (nth [int i64 s.rule,fz s.atoms.2 1 (List.length s.atoms.l) fun i x=>ac s.atoms.l i])])) (bif !decide (0<=u1/\u1<=p.atoms-1) then true else List.getD v (Int.toNat u1) 0 != 3)) ((↑(List.length s.atoms.l):Int))) (List.getD s.atoms.l (List.length s.atoms.l) 0)) ⟨omg,fun c1=>have c1:(↑(List.length s.atoms.l):Int)<(↑(List.length s.atoms.l):Int):=(of_decide_eq_true c1);⟨krf,omg,omg,omg,omg,omg,(fun _ _=>⟨rfl,(iw _ _ _ _ _ _)⟩),omg,omg,omg,omg,omg,omg,omg,omg,omg,omg,omg,omg,fun c2=>have c2:(¬(0<=List.getD s.atoms.l (List.length s.atoms.l) 0/\List.getD s.atoms.l (List.length s.atoms.l) 0<=p.atoms-1)∨¬List.getD v (Int.toNat (List.getD s.atoms.l (List.length s.atoms.l) 0)) 0=3)∨(↑(List.length s.atoms.l):Int) > 0/\List.getD s.atoms.l (List.length s.atoms.l) 0<=List.getD s.atoms.l (Int.toNat ((↑(List.length s.atoms.l):Int)-1)) 0:=((dR c2).imp (fun h=>((dR h).imp (fun h=>(of_decide_eq_false ((Bool.not_eq_true' _).mp h))) (fun h=>(bne_iff_ne.mp h)))) (fun h=>⟨(of_decide_eq_true (cw h).1),(of_decide_eq_true (cw h).2)⟩));?_,fun c2=>have c2:((0<=List.getD s.atoms.l (List.length s.atoms.l) 0/\List.getD s.atoms.l (List.length s.atoms.l) 0<=p.atoms-1)/\List.getD v (Int.toNat (List.getD s.atoms.l (List.length s.atoms.l) 0)) 0=3)/\(¬(↑(List.length s.atoms.l):Int) > 0∨¬List.getD s.atoms.l (List.length s.atoms.l) 0<=List.getD s.atoms.l (Int.toNat ((↑(List.length s.atoms.l):Int)-1)) 0):=⟨⟨(of_decide_eq_true ((Bool.not_eq_false' _).mp (bE (bE c2).1).1)),(bne_eq_false_iff_eq.mp (bE (bE c2).1).2)⟩,((eY (bE c2).2).imp (fun h=>(of_decide_eq_false h)) (fun h=>(of_decide_eq_false h)))⟩;⟨omg,?_⟩⟩,fun c1=>have c1:¬(↑(List.length s.atoms.l):Int)<(↑(List.length s.atoms.l):Int):=(of_decide_eq_false c1);?_⟩
   all_goals first|(exfalso;omega)|skip
   refine⟨_,z6 _,vcR [] (lkL [(6,[0,4,5,58]),(7,[0,4,5,8]),(8,[0,4,5,8,9]),(13,[6])]) (lkL [(13,[(6,ROrc.pcall (AV.bool (decide (0<=s.rule/\s.rule<=(↑(List.length p.rules.l):Int)-1)))),(35,ROrc.kcall (AV.bool (ew v (List.getD p.rules.l (Int.toNat s.rule) default))))])]) (fun Q=>(fun (u1:Int)=>(fun (u2:Bool)=>(fun (u3:Bool)=>(fun (u4:List AObj)=>(fun (u5:Rule)=>1<=2/\((s.rule == -1)=true->1<=2/\0<=p.atoms/\p.atoms<=p.atoms/\p.atoms<=140737488355328/\Int.toNat p.atoms*1<=aB/\WpC Tryd.prog R 123 1 69 [1,1,0,1,0,1,0,1,0] Q [Kont.blk 2,Kont.seq [1,1,0,1,0,1,1],Kont.seq [1,1,1]] (St.mk [(0,ow true 0 (List.length v) 1),(4,ref 1 0),(5,ref 2 0),(8,sl 3 0 (Int.toNat p.atoms) (Int.toNat p.atoms) true 1),(9,int i64 0)] [cells false (List.length v*1) fun a=>ac v a,cells false 2 (nth [int i64 p.atoms,af p.rules]),cells false 2 (nth [int i64 s.rule,fz s.atoms.2 1 (List.length s.atoms.l) fun i x=>ac s.atoms.l i]),cells false (Int.toNat p.atoms*1) fun j=>AV.bool false] g))/\((s.rule == -1)=false->Flw Tryd.prog/\1<=2/\2<=2/\(-9223372036854775808<=u1/\u1<=9223372036854775807)/\(∀(hp:List AObj) (g:R.σ),true=true/\Does Tryd.prog R 62 [int i64 s.rule,int i64 0,int i64 u1] hp g (ret (AV.bool (decide (0<=s.rule/\s.rule<=u1)))) hp g)/\(decide (0<=s.rule/\s.rule<=u1)=true->2<=2)/\(u2=true->2<=2)/\(u2=true->(↑0:Int)<=0/\0<(↑(List.length s.atoms.l):Int))/\(u2=true->1<=1)/\(u2=true->2<=2)/\(u2=true->1<=2)/\(u2=true->0<=s.rule/\s.rule<(↑(List.length p.rules.l):Int))/\(u2=true->1<=2)/\(u3=true->2<=2)/\(u3=true->1<=2)/\(u3=true->0<=s.rule/\s.rule<(↑(List.length p.rules.l):Int))/\(u3=true->2<=2)/\(u3=true->true=true/\Does Tryd.prog R 97 [ow true 0 (List.length v) 1,bm u5] u4 g (ret (AV.bool (ew v u5))) u4 g)/\Q AEx.ret (St.mk [(6,AV.bool (bif u3 then ew v u5 else false))] u4 g))) (List.getD p.rules.l (Int.toNat s.rule) default)) ([cells false (List.length v*1) fun a=>ac v a,cells false 2 (nth [int i64 p.atoms,af p.rules]),cells false 2 (nth [int i64 s.rule,fz s.atoms.2 1 (List.length s.atoms.l) fun i x=>ac s.atoms.l i])])) (bif u2 then List.getD s.atoms.l 0 0==(List.getD p.rules.l (Int.toNat s.rule) default).head else false)) (bif decide (0<=s.rule/\s.rule<=u1) then(↑(List.length s.atoms.l):Int)==1 else false)) ((↑(List.length p.rules.l):Int)-1)) ⟨omg,fun c1=>have c1:s.rule = -1:=(beq_iff_eq.mp c1);⟨omg,omg,omg,omg,omg,?_⟩,fun c1=>have c1:¬s.rule = -1:=(beq_eq_false_iff_ne.mp c1);⟨krf,omg,omg,omg,(fun _ _=>⟨rfl,(iw _ _ _ _ _ _)⟩),omg,omg,(by intro h;simp at h <;> omega),omg,omg,omg,(by intro h;simp at h <;> omega),omg,omg,omg,(by intro h;simp at h <;> omega),omg,(fun hgd=>⟨rfl,(doS [0] 3 (fun R g=>yq R (v) (List.getD p.rules.l (Int.toNat s.rule) default) ?_ g))⟩),?_⟩⟩⟩
   ·have hok:=fun i hi=>se (i:=i) h3 hi
    rw[show p.atoms.toNat=v.length by omega,if_pos c1]
    refine cD (toL (s':=⟨[(0,.ow true 0 v.length 1),(4,.ref 1 0),(5,.ref 2 0),(8,.ow true 3 v.length 1),(9,.int .i64 0)],[.cells false (v.length*1) (ac v),.cells false 2 (nth [.int .i64 p.atoms,af p.rules]),.cells false 2 (nth [.int .i64 s.rule,ah s.atoms]),.cells false (v.length*1) (fun _=>.bool false)],g⟩) (h1:=?_) (h2:=?_)) ?_
    ·exact⟨zT _,zT _,zT _,z3 omg,zT _,trivial⟩
    ·exact⟨zW _,zW _,zW _,zW _,trivial⟩
    refine(aX krf (fun (i:Nat)=>⟨[(0,ow true 0 (v.length) 1),(4,ref 1 0),(5,ref 2 0),(8,ow true 3 (v.length) 1),(9,.int .i64 i)],[.cells false (v.length*1) (ac v),.cells false 2 (nth [.int .i64 p.atoms,af p.rules]),.cells false 2 (nth [.int .i64 s.rule,ah s.atoms]),.cells false (v.length*1) (bF (cz v.length (s.atoms.l.take i)))],g⟩) (fun (i:Nat)=>(i<=s.atoms.l.length)) (fun (i:Nat)=>(s.atoms.l.length-i)) 0 (toL (h1:=⟨zT _,zT _,zT _,zT _,(zU krf),trivial⟩) (h2:=⟨zV,zV,zV,?_,trivial⟩)) ?_ (fun i hi=>?_))
    ·exact⟨rfl,Nat.le_refl _,fun j _=>zU yD.symm⟩
    ·exact Nat.zero_le _
    ·rcases Nat.lt_or_ge i s.atoms.l.length with hlt|hge
     ·have hm:=hok i hlt
      have hsb:=yB (n:=v.length) hlt
      have hsl:=sd (n:=v.length) (l:=s.atoms.l.take i)
      refine vcR [] (lkL [(9,[0,4,5,8,9,66]),(11,[0,4,5,8,9]),(10,[0,4,5,8,9])]) (fun _=>[]) (fun Q=>(fun (u1:Int)=>(fun (u2:Int)=>(fun (u3:AObj)=>(fun (u4:Int)=>(fun (u5:Nat)=>(fun (u6:AObj)=>2<=2/\(decide (u2<u1)=true->2<=2/\(0<=u2/\u2<u1)/\1<=1/\(0<=u4/\u4<(↑(List.length v):Int))/\Int.toNat u4+1<=u5/\(-9223372036854775808<=u2+1/\u2+1<=9223372036854775807)/\Q AEx.normal (St.mk [(0,ow true 0 (List.length v) 1),(4,ref 1 0),(5,ref 2 0),(8,ow true 3 (List.length v) 1),(9,int i64 (u2+1))] [cells false u5 fun a=>ac v a,u6,u3,cells false u5 (aj (bF (cz (List.length v) (List.take i s.atoms.l))) (Int.toNat u4) 1 fun x=>AV.bool true)] g))/\(decide (u2<u1)=false->Q (AEx.exit 2) (St.mk [(0,ow true 0 (List.length v) 1),(4,ref 1 0),(5,ref 2 0),(8,ow true 3 (List.length v) 1),(9,int i64 u2),(66,AV.bool (decide (u2<u1)))] [cells false u5 fun a=>ac v a,u6,u3,cells false u5 fun a=>bF (cz (List.length v) (List.take i s.atoms.l)) a] g))) (cells false 2 (nth [int i64 p.atoms,af p.rules]))) (List.length v*1)) (List.getD s.atoms.l i 0)) (cells false 2 (nth [int i64 s.rule,fz s.atoms.2 1 (List.length s.atoms.l) fun i x=>ac s.atoms.l i]))) ((↑i:Int))) ((↑(List.length s.atoms.l):Int))) ⟨omg,fun c1=>have c1:(↑i:Int)<(↑(List.length s.atoms.l):Int):=(of_decide_eq_true c1);⟨omg,omg,omg,omg,omg,omg,?_⟩,fun c1=>have c1:¬(↑i:Int)<(↑(List.length s.atoms.l):Int):=(of_decide_eq_false c1);?_⟩
      ·refine(aQ (i+1) (toL (h1:=⟨zT _,zT _,zT _,zT _,(zU krf),trivial⟩) (h2:=⟨zV,zV,zV,?_,trivial⟩)) ?_ ?_)
       ·exact⟨rfl,Nat.le_refl _,fun j _=>by
         rw[hsb]
         exact zU (yC omg)⟩
       ·omega
       ·omega
      ·exfalso;omega
     ·have hie:i=s.atoms.l.length:=by omega
      subst hie
      rw[List.take_length]
      refine vcR [] (lkL [(9,[0,4,5,8,9,66]),(11,[0,4,5,8,9]),(10,[0,4,5,8,9])]) (fun _=>[]) (fun Q=>(fun (u1:Int)=>(fun (u2:Int)=>(fun (u3:AObj)=>(fun (u4:Nat)=>(fun (u5:AObj)=>2<=2/\(decide (u1<u1)=true->2<=2/\(0<=u1/\u1<u1)/\1<=1/\(0<=u2/\u2<(↑(List.length v):Int))/\Int.toNat u2+1<=u4/\(-9223372036854775808<=u1+1/\u1+1<=9223372036854775807)/\Q AEx.normal (St.mk [(0,ow true 0 (List.length v) 1),(4,ref 1 0),(5,ref 2 0),(8,ow true 3 (List.length v) 1),(9,int i64 (u1+1))] [cells false u4 fun a=>ac v a,u5,u3,cells false u4 (aj (bF (cz (List.length v) s.atoms.l)) (Int.toNat u2) 1 fun x=>AV.bool true)] g))/\(decide (u1<u1)=false->Q (AEx.exit 2) (St.mk [(0,ow true 0 (List.length v) 1),(4,ref 1 0),(5,ref 2 0),(8,ow true 3 (List.length v) 1),(9,int i64 u1),(66,AV.bool (decide (u1<u1)))] [cells false u4 fun a=>ac v a,u5,u3,cells false u4 fun a=>bF (cz (List.length v) s.atoms.l) a] g))) (cells false 2 (nth [int i64 p.atoms,af p.rules]))) (List.length v*1)) (cells false 2 (nth [int i64 s.rule,fz s.atoms.2 1 (List.length s.atoms.l) fun i x=>ac s.atoms.l i]))) (List.getD s.atoms.l (List.length s.atoms.l) 0)) ((↑(List.length s.atoms.l):Int))) ⟨omg,fun c1=>have c1:(↑(List.length s.atoms.l):Int)<(↑(List.length s.atoms.l):Int):=(of_decide_eq_true c1);⟨omg,omg,omg,omg,omg,omg,?_⟩,fun c1=>have c1:¬(↑(List.length s.atoms.l):Int)<(↑(List.length s.atoms.l):Int):=(of_decide_eq_false c1);?_⟩
      all_goals first|(exfalso;omega)|skip
      have hsl:=sd (n:=v.length) (l:=s.atoms.l)
      have hu:iF v p s=(bif decide ((s.atoms.l.length:Int) > 0) then ey v (cz v.length s.atoms.l) p else false):=rfl
      rw[hu]
      obtain⟨S,hS⟩:∃S,cz v.length s.atoms.l=S:=⟨_,rfl⟩
      rw[hS] at hsl ⊢
      have hU:=fun (R:Res) (g:R.σ)=>yr R v S p hsl hpl hr g
      simp only[hsl] at hU
      refine⟨_,z6 _,vcR [] (lkL [(12,[6])]) (lkL [(12,[(8,ROrc.kcall (AV.bool (ey v S p)))])]) (fun Q=>(fun (u1:List AObj)=>(fun (u2:Int)=>2<=2/\(decide (u2 > 0)=true->2<=2)/\(decide (u2 > 0)=true->true=true/\Does Tryd.prog R 101 [ow true 0 (List.length v) 1,av p,ow true 3 (List.length v) 1] u1 g (ret (AV.bool (ey v S p))) u1 g)/\Q AEx.ret (St.mk [(6,AV.bool (bif decide (u2 > 0) then ey v S p else false))] u1 g)) ((↑(List.length s.atoms.l):Int))) ([cells false (List.length v*1) fun a=>ac v a,cells false 2 (nth [int i64 p.atoms,af p.rules]),cells false 2 (nth [int i64 s.rule,fz s.atoms.2 1 (List.length s.atoms.l) fun i x=>ac s.atoms.l i]),cells false (List.length v*1) fun a=>bF S a])) ⟨omg,omg,(fun hgd=>⟨rfl,(doS [0,3] 4 (fun R g=>hU R g))⟩),?_⟩⟩
      refine(aq (bg 1 _ _ rfl trivial omg trivial ⟨(fun _ _=>trivial),trivial⟩ krf rfl rfl) (zU krf))
   ·exact yA hr _
   ·rw[if_neg c1]
    refine(aq (bg 1 _ _ rfl trivial omg trivial ⟨(fun _ _=>trivial),trivial⟩ krf rfl rfl) (zU krf))
def gg (v:List Int)(p:Prg)(s:Step):Bool:= !dY v s.atoms.l s.atoms.l.length&&(if s.rule = -1 then iF v p s else j3 v p s)
def fH (v:List Int)(l:List Step):List Int:=l.foldl ez v
theorem yE {l:List Step}:∀{v:List Int},(fH v l).length=v.length:=by
 induction l with
 |nil=>exact rfl
 |cons s l ih=>
  intro v
  show(fH (ez v s) l).length=_
  rw[ih]
  exact lI
theorem sg {v:List Int}{l:List Step}{i:Nat}(h:i<l.length):fH v (l.take (i+1))=ez (fH v (l.take i)) (l.getD i default):=by
 unfold fH
 rw[List.take_add_one,List.foldl_append,List.getElem?_eq_getElem h,List.getD_eq_getElem?_getD,List.getElem?_eq_getElem h]
 rfl
theorem yF {v:List Int}{p:Prg}{s:Step}(h:gg v p s=true)(i:Nat)(hi:i<s.atoms.l.length):0<=s.atoms.l.getD i 0/\s.atoms.l.getD i 0<v.length:=by
 unfold gg at h
 rw[Bool.and_eq_true] at h
 exact se (by simpa using h.1) hi
def gT (p:Prg):List Step->List Int->Nat->Int
 |[],_,_=> -1
 |s::l,v,i=>if gg v p s then gT p l (ez v s) (i+1) else i
theorem yG (R:Res)(p:Prg)(n:Nat)(l:KL Step)(hn:0<n/\n<=1000)(hpa:p.atoms=n)(hpl:p.rules.l.length<1000000)(hr:∀r,r∈p.rules.l->ge n r)(hl:l.l.length<1000000)(hll:∀i,(l.l.getD i default).atoms.l.length<1000000)(g:R.σ):Does Tryd.prog R 24 [av p,au l] [] g (.ret (.int .i64 (gT p l.l (List.replicate n 3) 0))) [] g:=by
 have hroom:aB=140737488355328:=rfl
 refine spW (nt:=31) (rs:=[.tmp 4]) (k0:=0) ?_
 have hO:=fun (R:Res) (g:R.σ)=>yw R n hn g
 simp only[<-hpa] at hO
 refine vcR [] (lkL [(0,[1,2]),(1,[1,2,5]),(2,[1,2,5,6])]) (lkL [(1,[(2,ROrc.call (ow true 1 n 1) [cells false 2 (nth [int i64 p.atoms,af p.rules]),cells false (n*1) (ac (List.replicate n 3))] g)])]) (fun Q=>(fun (u1:List AObj)=>1<=2/\(true=true/\Does Tryd.prog R 63 [int i64 p.atoms] [cells false 2 (nth [int i64 p.atoms,af p.rules])] g (ret (ow true 1 n 1)) u1 g)/\WpC Tryd.prog R 31 0 24 [1,1,0,1,0] Q [Kont.blk 0,Kont.seq [1,1,1]] (St.mk [(1,au l),(2,ref 0 0),(5,ow true 1 n 1),(6,int i64 0)] u1 g)) ([cells false 2 (nth [int i64 p.atoms,af p.rules]),cells false (n*1) fun a=>ac (List.replicate n 3) a])) ⟨omg,⟨rfl,(doS [] 1 (fun R g=>hO R g))⟩,?_⟩
 refine(aX krf (fun (i:Nat)=>⟨[(1,au l),(2,ref 0 0),(5,.ow true 1 n 1),(6,.int .i64 i)],[.cells false 2 (nth [.int .i64 p.atoms,af p.rules]),.cells false (n*1) (ac (fH (List.replicate n 3) (l.l.take i)))],g⟩) (fun (i:Nat)=>(i<=l.l.length/\gT p l.l (List.replicate n 3) 0=gT p (l.l.drop i) (fH (List.replicate n 3) (l.l.take i)) i)) (fun (i:Nat)=>(l.l.length-i)) 0 (toL (h1:=⟨zT _,zT _,zT _,(zU krf),trivial⟩)) ?_ (fun i hi=>?_))
 ·exact⟨Nat.zero_le _,rfl⟩
 ·obtain⟨h2,h3⟩:=hi
  rw[h3]
  obtain⟨V,hV⟩:∃V,fH (List.replicate n 3) (l.l.take i)=V:=⟨_,rfl⟩
  have hVl:V.length=n:=by rw[<-hV,yE,List.length_replicate]
  rcases Nat.lt_or_ge i l.l.length with hlt|hge
  ·have hC:=fun (R:Res) (g:R.σ)=>sf R V p (l.l.getD i default) omg (by rw[hVl];exact hpa) (hll i) hpl (by rw[hVl];exact hr) g
   rw[hV]
   have hdrop:l.l.drop i=l.l.getD i default::l.l.drop (i+1):=by
    rw[List.getD_eq_getElem?_getD,List.getElem?_eq_getElem hlt]
    exact List.drop_eq_getElem_cons hlt
   by_cases hcan:gg V p (l.l.getD i default)=true
   ·have e:(!dY V (l.l.getD i default).atoms.l (l.l.getD i default).atoms.l.length&&(if (l.l.getD i default).rule = -1 then iF V p (l.l.getD i default) else j3 V p (l.l.getD i default)))=true:=hcan
    have hA:=fun (R:Res) (g:R.σ)=>sa R V (l.l.getD i default) omg (hll i) (yF hcan) g
    simp only[hVl,e] at hC
    simp only[hVl] at hA
    refine vcR [[1,1,0,1,0,0,1,0,0,0,1,0]] (lkL [(3,[1,2,5,6,13]),(5,[1,2,5,6,23]),(7,[1,2,5,6]),(4,[1,2,5,6])]) (lkL [(5,[(6,ROrc.kcall (AV.bool true))]),(7,[(5,ROrc.call (ow true 2 n 1) [cells false 2 (nth [int i64 p.atoms,af p.rules]),cells false (n*1) fun (a:Nat)=>ac V a,cells false (n*1) (ac (ez V (List.getD l.l i default)))] g)])]) (fun Q=>(fun (u1:List AObj)=>(fun (u2:AV)=>(fun (u3:Int)=>(fun (u4:List AObj)=>(fun (u5:Int)=>(decide (u5<u3)=true->Flw Tryd.prog/\2<=2/\(0<=u5/\u5<u3)/\2<=2/\(true=true/\Does Tryd.prog R 69 [ow true 1 n 1,av p,u2] u1 g (ret (AV.bool true)) u1 g)/\(false=true->WpC Tryd.prog R 31 0 24 [1,1,0,1,0,0,1,0,0,0,1,0] Q [Kont.seq [1,1,0,1,0,0,1,0,0,1],Kont.blk 1,Kont.seq [1,1,0,1,0,0,1,1]] (St.mk [(1,au l),(2,ref 0 0),(5,ow true 1 n 1),(6,int i64 u5),(23,AV.bool false)] u1 g))/\(false=false->(0<=u5/\u5<u3)/\2<=2/\(true=true/\Does Tryd.prog R 65 [ow true 1 n 1,u2] u1 g (ret (ow true 2 n 1)) u4 g)/\(-9223372036854775808<=u5+1/\u5+1<=9223372036854775807)/\Q AEx.normal (St.mk [(1,au l),(2,ref 0 0),(5,ow true 2 n 1),(6,int i64 (u5+1))] u4 g)))/\(decide (u5<u3)=false->Q (AEx.exit 0) (St.mk [(1,au l),(2,ref 0 0),(5,ow true 1 n 1),(6,int i64 u5),(13,AV.bool (decide (u5<u3)))] u1 g))) ((↑i:Int))) ([cells false 2 (nth [int i64 p.atoms,af p.rules]),cells false (n*1) fun a=>ac V a,cells false (n*1) fun a=>ac (ez V (List.getD l.l i default)) a])) ((↑(List.length l.l):Int))) (agg 2 (nth [int i64 (List.getD l.l i default).rule,fz (List.getD l.l i default).atoms.2 1 (List.length (List.getD l.l i default).atoms.l) fun i_1 x=>ac (List.getD l.l i default).atoms.l i_1]))) ([cells false 2 (nth [int i64 p.atoms,af p.rules]),cells false (n*1) fun a=>ac V a])) ⟨fun c1=>have c1:(↑i:Int)<(↑(List.length l.l):Int):=(of_decide_eq_true c1);⟨krf,omg,omg,omg,⟨rfl,(doS [1] 2 (fun R g=>hC R g))⟩,fun h=>(nomatch h),fun _=>⟨omg,omg,⟨rfl,(doS [1] 2 (fun R g=>hA R g))⟩,omg,?_⟩⟩,fun c1=>have c1:¬(↑i:Int)<(↑(List.length l.l):Int):=(of_decide_eq_false c1);?_⟩
    ·refine(aQ (i+1) (toS [0,2] 3 (hob:=⟨⟨rfl,Nat.le_refl _,fun j hj=>match j,hj with|0,_=>(zT _)|1,_=>(zT _) ⟩,?_,trivial⟩)) ?_ ?_)
     ·show LeO (.cells false (n*1) (ac (ez V (l.l.getD i default)))) (.cells false (n*1) (ac (fH (List.replicate n 3) (l.l.take (i+1)))))
      rw[sg hlt,hV]
      exact zW _
     ·refine⟨omg,?_⟩
      rw[hdrop,sg hlt,hV]
      exact if_pos hcan
     ·omega
    ·exfalso;omega
   ·have hcan:gg V p (l.l.getD i default)=false:=by simpa using hcan
    have e:(!dY V (l.l.getD i default).atoms.l (l.l.getD i default).atoms.l.length&&(if (l.l.getD i default).rule = -1 then iF V p (l.l.getD i default) else j3 V p (l.l.getD i default)))=false:=hcan
    simp only[hVl,e] at hC
    have hw:gT p (l.l.drop i) V i=i:=by
     rw[hdrop]
     exact if_neg (by rw[hcan];decide)
    rw[hw]
    refine vcR [[1,1,0,1,0,0,1,0,0,0,1,1]] (lkL [(3,[1,2,5,6,13]),(5,[1,2,5,6,23]),(6,[4])]) (lkL [(5,[(6,ROrc.kcall (AV.bool false))])]) (fun Q=>(fun (u1:List AObj)=>(fun (u2:Int)=>(fun (u3:Int)=>(fun (u4:Step)=>(decide (u3<u2)=true->Flw Tryd.prog/\2<=2/\(0<=u3/\u3<u2)/\2<=2/\(true=true/\Does Tryd.prog R 69 [ow true 1 n 1,av p,agg 2 (nth [int i64 u4.rule,fz u4.atoms.2 1 (List.length u4.atoms.l) fun i x=>ac u4.atoms.l i])] u1 g (ret (AV.bool false)) u1 g)/\(true=true->Q AEx.ret (St.mk [(4,int i64 u3)] u1 g))/\(true=false->WpC Tryd.prog R 31 0 24 [1,1,0,1,0,0,1,0,0,0,1,1] Q [Kont.seq [1,1,0,1,0,0,1,0,0,1],Kont.blk 1,Kont.seq [1,1,0,1,0,0,1,1]] (St.mk [(1,au l),(2,ref 0 0),(5,ow true 1 n 1),(6,int i64 u3),(23,AV.bool true)] u1 g)))/\(decide (u3<u2)=false->Q (AEx.exit 0) (St.mk [(1,au l),(2,ref 0 0),(5,ow true 1 n 1),(6,int i64 u3),(13,AV.bool (decide (u3<u2)))] u1 g))) (List.getD l.l i default)) ((↑i:Int))) ((↑(List.length l.l):Int))) ([cells false 2 (nth [int i64 p.atoms,af p.rules]),cells false (n*1) fun a=>ac V a])) ⟨fun c1=>have c1:(↑i:Int)<(↑(List.length l.l):Int):=(of_decide_eq_true c1);⟨krf,omg,omg,omg,⟨rfl,(doS [1] 2 (fun R g=>hC R g))⟩,fun _=>?_,fun h=>(nomatch h)⟩,fun c1=>have c1:¬(↑i:Int)<(↑(List.length l.l):Int):=(of_decide_eq_false c1);?_⟩
    ·refine⟨_,z6 _,(aq (bl _ _ rfl trivial trivial rfl) (zT _))⟩
    ·exfalso;omega
  ·have hie:i=l.l.length:=by omega
   subst hie
   rw[List.drop_length]
   have hbb:decide ((l.l.length:Int)<(l.l.length:Int))=false:=decide_eq_false omg
   rw[hV]
   have hC:=fun (R:Res) (g:R.σ)=>sf R V p (l.l.getD l.l.length default) omg (by rw[hVl];exact hpa) (hll _) hpl (by rw[hVl];exact hr) g
   have hd:l.l.getD l.l.length default=default:=by
    rw[List.getD_eq_getElem?_getD,List.getElem?_eq_none (Nat.le_refl _)]
    rfl
   have hA:=fun (R:Res) (g:R.σ)=>sa R V (l.l.getD l.l.length default) omg (hll _) (fun i hi=>by
    rw[hd] at hi
    exact absurd hi (Nat.not_lt_zero i)) g
   simp only[hVl] at hC hA
   have hw:gT p [] V l.l.length = -1:=rfl
   rw[hw]
   refine vcR [[1,1,0,1,0,0,0,1,0]] (lkL [(3,[1,2,5,6,13])]) (fun _=>[]) (fun Q=>(fun (u1:Int)=>(fun (u2:St R.σ)=>(decide (u1<u1)=true->WpC Tryd.prog R 31 0 24 [1,1,0,1,0,0,0,1,0] Q [Kont.seq [1,1,0,1,0,0,1]] u2)/\(decide (u1<u1)=false->Q (AEx.exit 0) u2)) (St.mk [(1,au l),(2,ref 0 0),(5,ow true 1 n 1),(6,int i64 u1),(13,AV.bool (decide (u1<u1)))] [cells false 2 (nth [int i64 p.atoms,af p.rules]),cells false (n*1) fun a=>ac V a] g)) ((↑(List.length l.l):Int))) ⟨fun hcc=>(nomatch (hbb.symm.trans hcc)),fun _=>?_⟩
   all_goals first|(exfalso;omega)|skip
   refine⟨_,z6 _,vcR [] (lkL [(8,[4])]) (fun _=>[]) (fun (Q:AEx->St R.σ->Prop)=>Q AEx.ret (St.mk [(4,int i64 (-1))] [cells false 2 (nth [int i64 p.atoms,af p.rules]),cells false (n*1) fun (a:Nat)=>ac V a] g)) (?_)⟩
   refine(aq (bl _ _ rfl trivial trivial rfl) (zT _))
def sh (v:List Int)(s:List Bool)(r:Rule):List Bool:=if gf v s r then s.set r.head.toNat false else s
def yH (v:List Int)(s:List Bool)(l:List Rule):List Bool:=l.foldl (sh v) s
def grCh (v:List Int):List Rule->List Bool->Bool
 |[],_=>false
 |r::l,s=>gf v s r||grCh v l (sh v s r)
def sj (v:List Int)(p:Prg):Nat->List Bool->List Bool
 |0,s=>s
 |n+1,s=>if grCh v p.rules.l s then sj v p n (yH v s p.rules.l) else s
def yI (v:List Int):List Bool:=v.map (fun x=>x==3)
def grR (v:List Int)(p:Prg):List Bool:=sj v p (v.length+1) (yI v)
def yJ (v:List Int)(r:Rule):Bool:=v.getD r.head.toNat 0==3&&ew v r
def lJ (v:List Int)(p:Prg):Int:=aN (yJ v) p.rules.l 0
def sk (v:List Int)(p:Prg):List Int:=yu (grR v p) v.length
def oo (v:List Int)(p:Prg):Stp:=if 0<=lJ v p then⟨lJ v p,[(p.rules.l.getD (lJ v p).toNat default).head]⟩ else⟨-1,sk v p⟩
def sm (v:List Int)(p:Prg):Bool:=decide (0<=lJ v p)||decide (0<(sk v p).length)
def j4 (l:List Stp):Nat->AV:=fun c=>bif Nat.beq (c%2) 0 then .int .i64 (l.getD (c/2) default).rule else ah ⟨(l.getD (c/2) default).atoms,.auto⟩
theorem qB {k:Nat}(l:List Stp)(j:Nat):Below k (j4 l j):=by
 unfold j4
 cases Nat.beq (j%2) 0 <;> trivial
theorem qK {f:Nat->Nat}(h:True){l:List Stp}{j:Nat}:aF f (j4 l j)=j4 l j:=by
 unfold j4
 cases Nat.beq (j%2) 0 with
 |true=>rfl
 |false=>rfl
def oq (p:Prg):Nat->List Int->List Stp->List Stp × List Int
 |0,v,l=>(l,v)
 |n+1,v,l=>if sm v p then oq p n (ez v (lB (oo v p))) (l++[oo v p]) else(l,v)
def yK (p:Prg)(n:Nat):List Stp × List Int:=oq p (n+1) (List.replicate n 3) []
def sn (v:List Int):Nat:=v.count 3
structure DerOk (p:Prg)(n:Nat)(x:Nat × List Int × List Stp × Step × Bool):Prop where
 num:x.1=x.2.2.1.length
 len:x.2.1.length=n
 step:x.2.2.2.1=lB (oo x.2.1 p)
 is:x.2.2.2.2=sm x.2.1 p
 few:x.1+sn x.2.1<=n
 der:∃f,sn x.2.1<f/\oq p f x.2.1 x.2.2.1=yK p n
structure Agr (n:Nat)(v:List Int)(f:Nat->Int):Prop where
 len:v.length=n
 get:∀j,j<n->v.getD j 0=f j
 val:∀j,j<n->f j=1∨f j=2∨f j=3
theorem ot {U:Type}{q q':U->Bool}:∀{l:List U},(∀x,x∈l->q x=q' x)->l.any q=l.any q'
 |[],_=>rfl
 |x::l,h=>by rw[List.any_cons,List.any_cons,h x List.mem_cons_self,ot (fun y hy=>h y (List.mem_cons_of_mem _ hy))]
theorem yL {n:Nat}{v:List Int}{f:Nat->Int}{r:Rule}(ha:Agr n v f)(h:iC n r):ew v r=dj f r:=by
 unfold ew dj
 congr 1
 refine ot (fun l hl=>?_)
 have hl:=h.2 l hl
 have hg:=ha.get l.atom.toNat omg
 have hv:=ha.val l.atom.toNat omg
 unfold cp bY
 rw[hg]
 cases l.neg <;> rcases hv with h|h|h <;> rw[h] <;> decide
def blk (f:Nat->Int)(m:Nat->Bool)(l:Lit):Bool:=bY f l==1||(!l.neg&&m l.atom.toNat)
theorem yM {n:Nat}{v:List Int}{f:Nat->Int}{l:Lit}{s:List Bool}(ha:Agr n v f)(h:0<=l.atom/\l.atom<n):iE v s l=blk f (fun j=>s.getD j false) l:=by
 have hg:=ha.get l.atom.toNat omg
 have hv:=ha.val l.atom.toNat omg
 unfold iE blk bV bY
 rw[hg]
 cases l.neg <;> rcases hv with h|h|h <;> rw[h] <;> simp
theorem yN {n:Nat}{v:List Int}{f:Nat->Int}{r:Rule}{s:List Bool}(ha:Agr n v f)(h:iC n r):cq v s r = !r.body.l.any (blk f (fun j=>s.getD j false)):=by
 unfold cq
 rw[ot (fun l hl=>yM ha (h.2 l hl))]
def yO (p:Prg)(f:Nat->Int)(m:Nat->Bool):Prop:=∀r,r∈p.rules.l->m r.head.toNat=true->r.body.l.any (blk f m)=true
section
variable {p:Prg}{n:Nat}{v:List Int}{f:Nat->Int}
theorem so {l:List Rule}{a:Int}{r:Rule}:r∈ofH l a↔r∈l/\r.head=a:=by
 unfold ofH
 rw[List.mem_filter,beq_iff_eq]
theorem sq {x:Int}:∀{l v:List Int} {j:Nat},j<v.length->(∀a,a∈l->0<=a)->(dL x v l).getD j 0=if (j:Int)∈l then x else v.getD j 0
 |[],_,_,_,_=>by rw[if_neg (by simp)];rfl
 |a::l,v,j,hj,hl=>by
  show(dL x (v.set a.toNat x) l).getD j 0=_
  have ha:=hl a List.mem_cons_self
  rw[sq (by rw[List.length_set];exact hj) (fun b hb=>hl b (List.mem_cons_of_mem _ hb))]
  by_cases h:(j:Int)∈l
  ·rw[if_pos h,if_pos (List.mem_cons_of_mem _ h)]
  ·rw[if_neg h,List.getD_eq_getElem?_getD,List.getElem?_set]
   by_cases he:a.toNat=j
   ·rw[if_pos he,if_pos omg,if_pos (by rw[List.mem_cons];exact .inl omg)]
    rfl
   ·rw[if_neg he,if_neg (by rw[List.mem_cons];rintro (h1|h1);exact he omg;exact h h1),<-List.getD_eq_getElem?_getD]
end
end Go.Avm.Pack
namespace Go.Avm.Pack
open Go Go.Avm Go.Proofs
open Go.IntKind (i64 u64)
open Go.Avm.AV (int bool any fz fp sl ow ref fn ifc val agg tup)
open Go.Avm.AObj (cells dead)
open Go.Avm.Oc (ret)
set_option maxRecDepth 4000
def hgL (x:List Bool × Bool)(l:Lit):List Bool × Bool:=if x.1.getD l.atom.toNat false then x else(x.1.set l.atom.toNat true,true)
def hgU (x:List Bool × Bool)(r:Rule):List Bool × Bool:=if x.1.getD r.head.toNat false then r.body.l.foldl hgL x else x
def hgD (p:Prg)(s:List Bool):List Bool × Bool:=p.rules.l.foldl hgU (s,false)
def hgI (p:Prg):Nat->List Bool->List Bool
 |0,s=>s
 |k+1,s=>if (hgD p s).2 then hgI p k (hgD p s).1 else s
def hgR (p:Prg)(n a:Nat):List Bool:=hgI p (n+1) ((List.replicate n false).set a true)
def iG (s:List Bool):Nat:=s.count false
structure HgS (x y:List Bool × Bool):Prop where
 len:y.1.length=x.1.length
 up:∀k,x.1.getD k false=true->y.1.getD k false=true
 ch:x.2=true->y.2=true
 cnt:iG y.1<=iG x.1
 less:y.2=true->x.2=false->iG y.1<iG x.1
 same:y.2=false->y.1=x.1
structure HgOk (p:Prg)(n a:Nat)(x:List Bool × Bool):Prop where
 len:x.1.length=n
 go:x.2=true->∃f,iG x.1<f/\hgI p f x.1=hgR p n a
 stop:x.2=false->x.1=hgR p n a
def iH (l:List Bool):AV:=.fz .auto 1 l.length (fun i _=>.bool (l.getD i false))
theorem qH {k:Nat}(l:List Bool):Below k (iH l):=trivial
abbrev HG:=Nat->List Bool
def hgC (h:HG):Nat->AV:=fun i=>iH (h i)
theorem qC {k:Nat}(h:HG)(j:Nat):Below k (hgC h j):=trivial
theorem qL {f:Nat->Nat}(t:True){h:HG}{j:Nat}:aF f (hgC h j)=hgC h j:=rfl
end Go.Avm.Pack
namespace Go.Avm.Pack
open Go Go.Avm Go.Proofs Go.RowKit Go.Shelf
attribute [local go_sem] Oper.semAt_some
theorem yP (n:Nat)(hn:1<=n)(l s:Nat)(hs:s<2^24)(A:Addr)(FM:Mem)(ht:cJ gsT FM)(J:Nat->World->Prop)(E:Ending->World->Prop)(K:Nat)
  (hJ:∀k W,J k W->W.cell? A=some (.int .u64 (Tb.cutN s k))/\W.frozen? A=false/\(∀b o,FM b=some o->W.heap[b]? = some o))
  (hJg:∀k W W',J k W->W.grownBy W' none->J k W')
  (hY:∀k W,k<K->k<(ai s).length->J k W->YieldAt Fence.wide (n-1) Tryd.prog l #[.int .i64 ((ai s).getD k 0)] W fun e W'=>e=.returned (.bool true)/\W'.cell? A=some (.int .u64 (Tb.cutN s k))/\W'.frozen? A=false/\J (k+1) (W'.setCell A (.int .u64 (Tb.cutN s (k+1)))))
  (hE:∀W,K<(ai s).length->J K W->YieldAt Fence.wide (n-1) Tryd.prog l #[.int .i64 ((ai s).getD K 0)] W fun e W'=>(e=.returned (.bool false)∨∃ch,e=.panicked ch)/\E e W')
  (W:World) (h0:J 0 W) :
  CallsIn Fence.wide n Tryd.prog 105 #[.func (.yield l) #[] #[],.pointer (some A)] W fun e W'=>((ai s).length<=K/\(∃v,e=.returned v)/\J (ai s).length W')∨(K<(ai s).length/\(((∃v,e=.returned v)/\E (.returned (.bool false)) W')∨∃ch,e=.panicked ch/\E (.panicked ch) W')):=by
 refine callsIn_of_wp Tryd.func105 rfl trivial ?_ rfl
 simp only[Tryd.ntmps105,List.size_toArray,List.length_cons,List.length_nil,Nat.reduceAdd,Nat.reduceSub,Array.replicate_succ,Array.replicate_zero,List.push_toArray,List.append_toArray,List.nil_append,List.cons_append]
 gi_wp2
 gi_loopw [] (fun wr=>∃k,k<=(ai s).length/\k<=K/\J k wr) (fun wr=>match wr.cell? A with|some (.int _ v)=>v.toNat|_=>0)
 case atStart=>exact⟨0,Nat.zero_le _,Nat.zero_le _,h0⟩
 case round=>
  obtain⟨k,hk,hkK,hJk⟩:=hrel
  obtain⟨hc,hf,hFM⟩:=hJ k wr hJk
  have hlt:=Tb.cutN_lt hs k
  rcases Nat.lt_or_ge k (ai s).length with hkl|hkl
  ·obtain⟨m,hm⟩:=Tb.cutN_in hs hkl
   have k1:0<Tb.cutN s k:=by
    rw[hm]
    exact Nat.mul_pos (Nat.pow_pos (by decide)) (by omega)
   have k2:=lc hm hlt
   clear hm
   have hz:¬((Tb.cutN s k:Nat):Int)=0:=by omega
   have htz:=fun m=>ra m (Tb.cutN s k) k1 hlt wr FM hFM ht
   rcases Nat.lt_or_ge k K with hlK|hgK
   ·have hYk:=fun W=>hY k W hlK hkl
    obtain⟨x,hx⟩:∃x,(ai s).getD k 0=x:=⟨_,rfl⟩
    rw[hx] at k2
    simp only[hx] at hYk
    simp only[k2] at htz
    gi_wp2
    refine⟨trivial,(htz _).mono ?_⟩
    rintro e w' ⟨rfl,hg⟩
    have hJ':=hJg k wr w' hJk hg
    obtain⟨hc',hf',hFM'⟩:=hJ k w' hJ'
    obtain⟨fn,tmps,assign,body,hy,hR⟩:=hYk w' hJ'
    dsimp only
    gi_wp2
    refine hR.mono ?_
    rintro e W3 ⟨rfl,hc3,hf3,hJ3⟩
    dsimp only
    gi_wp2
    have hb:bits .and .u64 ((Tb.cutN s k:Nat):Int) (((Tb.cutN s k:Nat):Int)-1)=((Tb.cutN s (k+1):Nat):Int):=rb _ hlt k1
    rw[hb]
    refine⟨⟨k+1,hkl,hlK,hJ3⟩,?_⟩
    rw[(hJ _ _ hJ3).1,hc]
    show((Tb.cutN s (k+1):Nat):Int).toNat<((Tb.cutN s k:Nat):Int).toNat
    have:Tb.cutN s (k+1)<=Tb.cutN s k-1:=Nat.and_le_right
    omega
   ·have hkK:K=k:=by omega
    subst hkK
    have hYk:=fun W=>hE W hkl
    obtain⟨x,hx⟩:∃x,(ai s).getD K 0=x:=⟨_,rfl⟩
    rw[hx] at k2
    simp only[hx] at hYk
    simp only[k2] at htz
    gi_wp2
    refine⟨trivial,(htz _).mono ?_⟩
    rintro e w' ⟨rfl,hg⟩
    have hJ':=hJg K wr w' hJk hg
    obtain⟨hc',hf',hFM'⟩:=hJ K w' hJ'
    obtain⟨fn,tmps,assign,body,hy,hR⟩:=hYk w' hJ'
    dsimp only
    gi_wp2
    refine hR.mono ?_
    rintro e W3 ⟨he,hE3⟩
    rcases he with rfl|⟨ch,rfl⟩
    ·dsimp only
     gi_wp2
     (try simp only[Exit.inBlock,Exit.then])
     refine bodyPost_ret (results_none rfl _ _ _) rfl ?_
     exact .inr ⟨hkl,.inl ⟨⟨_,rfl⟩,hE3⟩⟩
    ·exact⟨rfl,.inr ⟨hkl,.inr ⟨ch,rfl,hE3⟩⟩⟩
  ·have hz:((Tb.cutN s k:Nat):Int)=0:=by rw[show k=(ai s).length by omega,Tb.cutN_end hs];rfl
   have hkk:k=(ai s).length:=by omega
   subst hkk
   gi_wp2
   go_end0
   exact .inl ⟨hkK,⟨_,rfl⟩,hJk⟩
end Go.Avm.Pack
namespace Go.Avm.Pack
open Go Go.Avm Go.Proofs
open Go.IntKind (i64 u64)
open Go.Avm.AV (int bool any fz fp sl ow ref fn ifc val agg tup)
open Go.Avm.AObj (cells dead)
open Go.Avm.Oc (ret)
set_option maxRecDepth 4000
end Go.Avm.Pack
namespace Go.Avm.Pack
open Go Go.Avm Go.Proofs Go.RowKit Go.Shelf
section
variable {R:Res}
theorem sr [Tab LT R]{nt k0:Nat}{Q:AEx->St R.σ->Prop}{s:St R.σ}{t:Nat}{ps:Array Tmp}{assign body:Code}{fa fb:Nat->AV}{m S K:Nat}{H:List AObj}{fn:FuncId}
  (hf:lk s.fr t=.fn 105 0 fa 1 fb) (hfb:fb 0=.ref m 0) (hS:S<2^24) (h0:s.hp=H++[.cells false 1 (fun _=>.int .u64 S)]) (hl:H.length=m)
  (hlive:du (H++[.cells false 1 (fun _=>.int .u64 S)])) (hBO:e7 m H) (hlen:1=ps.toList.length) (hlt:bw ps.toList nt=true) (ts:List Nat) (hBf:fY ts (fun t=>Below m (lk s.fr t)))
  (hround:∀k,k<K->k<(ai S).length->kT Tryd.prog R nt assign body none H s.g ⟨cE ps.toList [.int .i64 (((ai S).getD k 0:Nat):Int)] (dH ts s.fr),H,s.g⟩)
  (hlast:K<(ai S).length->∀l,wpA Tryd.prog R nt (m+1) (.inr l) assign (fun e s1=>e=.normal/\wpA Tryd.prog R nt s1.hp.length (.inr l) body (jz ((Tryd.prog.funcs[fn]?).isSome=true) (fun e s3=>Q e ⟨s.fr,s3.hp,s3.g⟩)) s1) ⟨cE ps.toList [.int .i64 (((ai S).getD K 0:Nat):Int)] s.fr,H++[.dead],s.g⟩)
  (hdone:(ai S).length<=K->Q .normal ⟨s.fr,H++[.dead],s.g⟩) {C:Cx R} (hC:C.Z.length=k0/\C.df.out=true) {n:Nat} {a:Act} {w:World} (hH:d9 R C nt s a w) :
  qw (Fw .top) n Tryd.prog (.tmp t) ps assign body (dO R C nt Q) a w fn:=by
 obtain⟨FM,Z,hs⟩:=hH
 obtain⟨D,hD⟩:∃D,D=w.heap.size:=⟨_,rfl⟩
 obtain⟨L,hL⟩:∃L,L=w.heap.size+1:=⟨_,rfl⟩
 have hne:D≠L:=by omega
 obtain⟨rec,hrec⟩:∃rec:LoopState->Option Code->Loop,rec=fun st pe=>{ state:=st,pending:=pe,fn,tmps:=a.tmps,params:=ps,assign,body,defers:=D }:=⟨_,rfl⟩
 obtain⟨W1,hW1⟩:∃W1,(w.alloc (.deferred (some []))).alloc (.loop (rec .ready none))=W1:=⟨_,rfl⟩
 have hL1:W1.heap[L]? = some (.loop (rec .ready none)):=by
  rw[<-hW1,hL];have:=World.alloc_heap_new (w.alloc (.deferred (some []))) (.loop (rec .ready none));rwa [World.size_alloc] at this
 have hD1:W1.heap[D]? = some (.deferred (some [])):=by
  rw[<-hW1,hD];exact(_root_.Go.RowKit.Below.heap_alloc _ _ _ (by simp)).trans (World.alloc_heap_new w _)
 have hsz1:W1.heap.size=w.heap.size+2:=by rw[<-hW1];simp
 obtain⟨okA,goA⟩:=ie hs.ok (.deferred (some []))
 obtain⟨ok1,goB⟩:=ie okA (.loop (rec .ready none))
 have go1:=goA.trans goB
 rw[hW1] at ok1 go1
 obtain⟨o,ho⟩:∃o:AObj,o=.cells false 1 (fun _=>.int .u64 S):=⟨_,rfl⟩
 rw[<-ho] at h0 hlive
 have hlen0:s.hp.length=m+1:=by rw[h0];simp[hl]
 have hZl:Z.length=m+1:=by rw[hs.ok.rel.len,hlen0]
 obtain⟨pb,hpb⟩:∃pb,Z[m]? = some pb:=⟨_,List.getElem?_eq_getElem (by omega)⟩
 obtain⟨Z0,hZ0⟩:∃Z0,Z0=Z.take m:=⟨_,rfl⟩
 have hsub0:Sub Z0 Z:=fun i p hi=>by
  rw[hZ0,List.getElem?_take] at hi
  split at hi
  ·exact hi
  ·cases hi
 have hlt0:∀{i p},Z0[i]? = some p->i<m:=fun {i p} hi=>by
  rw[hZ0,List.getElem?_take] at hi
  split at hi
  ·assumption
  ·cases hi
 have hInB:∀b,InB Z b↔InB Z0 b∨InB [pb] b:=fun b=>by
  constructor
  ·rintro ⟨p,hp,hb,hre⟩
   obtain⟨i,hi⟩:=List.getElem?_of_mem hp
   have:i<m+1:=by rw[<-hZl];exact(List.getElem?_eq_some_iff.1 hi).1
   rcases Nat.lt_or_ge i m with h|h
   ·exact .inl ⟨p,List.mem_of_getElem? (i:=i) (by rw[hZ0,List.getElem?_take,if_pos h];exact hi),hb,hre⟩
   ·have:i=m:=by omega
    subst this
    rw[hpb] at hi;cases hi
    exact .inr ⟨pb,by simp,hb,hre⟩
  ·rintro (⟨p,hp,hb,hre⟩|⟨p,hp,hb,hre⟩)
   ·obtain⟨i,hi⟩:=List.getElem?_of_mem hp
    exact⟨p,bi (hsub0 i p hi),hb,hre⟩
   ·have:p=pb:=by simpa using hp
    subst this
    exact⟨p,bi hpb,hb,hre⟩
 have hgo:∀i,i<m->ag s.hp i=ag H i:=fun i hi=>by rw[h0,jh (by rw[hl];exact hi)]
 have hgm:ag s.hp m=o:=by rw[h0,ji (by rw[hl];exact Nat.le_refl _),hl,Nat.sub_self];rfl
 have hlv:∀i,i<m+1->aE (ag s.hp i)=true:=fun i hi=>by rw[h0];exact jl hlive i (by simp[hl];omega)
 have rel0:∀W,HRel FM Z s.hp W->HRel FM Z0 H W:=fun W hr=>by
  refine⟨hr.fm,by rw[hZ0,List.length_take,hl,hZl];omega,fun i p hi=>?_,fun i j p q hi hj _ _ e=>hr.inj i j p q (hsub0 i p hi) (hsub0 j q hj) (hlv i (by have:=hlt0 hi;omega)) (hlv j (by have:=hlt0 hj;omega)) e⟩
  obtain⟨k1,k2⟩:=hr.obj i p (hsub0 i p hi)
  rw[hgo i (hlt0 hi)] at k2
  refine⟨k1,?_⟩
  rw[hZ0]
  exact kR k2 (kQ hBO i)
 have relI:∀W,HRel FM Z s.hp W->HRel FM [pb] [o] W:=fun W hr=>by
  refine⟨hr.fm,rfl,fun i p hi=>?_,fun i j p q hi hj _ _ _=>?_⟩
  ·have e:i=0:=by
    have:=(List.getElem?_eq_some_iff.1 hi).1
    simpa using this
   subst e
   have hi:pb=p:=by simpa using hi
   subst hi
   obtain⟨k1,k2⟩:=hr.obj m pb hpb
   rw[hgm] at k2
   refine⟨k1,?_⟩
   have:=kR (k:=0) k2 (by rw[ho];exact fun _ _=>trivial)
   exact kS (fun i p hi=>by simp at hi) this
  ·have e1:=(List.getElem?_eq_some_iff.1 hi).1
   have e2:=(List.getElem?_eq_some_iff.1 hj).1
   simp at e1 e2
   omega
 have hdis:∀b,InB [pb] b->¬InB Z0 b:=fun b ⟨p,hp,hb,hre⟩ ⟨q,hq,hb',hre'⟩=>by
  have:p=pb:=by simpa using hp
  subst this
  obtain⟨i,hi⟩:=List.getElem?_of_mem hq
  have:=hlt0 hi
  have:=hs.ok.rel.inj i m q p (hsub0 i q hi) hpb (hlv i (by omega)) (hlv m (by omega)) (by rw[hb,hb'])
  omega
 have nIn:∀X,w.heap.size<=X->¬InB Z X:=fun X hX ⟨p,hp,hb,hre⟩=>by
  obtain⟨i,hi⟩:=List.getElem?_of_mem hp
  have:=(hs.ok.rel.obj i p hi).1 hre
  omega
 have nB:∀X,w.heap.size<=X->¬R.B s.g X:=fun X hX hb=>by have:=(hs.ok.bd X hb).1;omega
 have nF:∀X,w.heap.size<=X->FM X=none:=fun X hX=>by
  cases hx:FM X with
  |none=>rfl
  |some o=>have:=(Array.getElem?_eq_some_iff.1 (hs.ok.rel.fm X o hx)).1;omega
 have hev:Den FM Z (.fn 105 0 fa 1 fb) (a.eval (.tmp t)):=by rw[<-hf];exact hs.fr t
 obtain⟨xs,ys,hu,hxs,hys,hda,hdb⟩:=hev
 have hfr0:∀t,Den FM Z0 (lk (dH ts s.fr) t) (a.tmps.getD t undef):=m0 (fun t=>hs.fr t) (fun t ht=>mZ hBf t ht) hZ0
 let u:Value:=.func (.yield L) #[] #[]
 let R2:Res:=eW (gz R D L rec) FM Z0
 let G2:R2.σ:=((s.g,.ready,none),H)
 let box:Nat->AObj:=fun k=>.cells false 1 (fun _=>.int .u64 (Tb.cutN S k))
 have hbox0:box 0=o:=ho.symm
 have hpreal:pb.2.1+1<=pb.2.2/\FM pb.1=none:=by
  obtain⟨k1,k2⟩:=hs.ok.rel.obj m pb hpb
  rw[hgm,ho] at k2
  obtain⟨cs,e,b1,b2,b3,b4,b5,b6⟩:=k2 (by omega)
  exact⟨by omega,b6 rfl⟩
 have hpin:InB [pb] pb.1:=⟨pb,by simp,rfl,by omega⟩
 obtain⟨A,hA⟩:∃A:Addr,A=⟨pb.1,pb.2.1,none⟩:=⟨_,rfl⟩
 let J:Nat->World->Prop:=fun k W=>∃FMk,Ok R2 [box k] G2 FMk [pb] W/\Goes R s.g FM Z w s.g FMk Z W/\Goes R2 G2 FM [pb] W1 G2 FMk [pb] W
 have okI:Ok R2 [box 0] G2 FM [pb] W1:=by
  rw[hbox0]
  refine⟨relI W1 ok1.rel,⟨⟨rel0 W1 ok1.rel,⟨ok1.j,hD1,hL1,⟨nF D (by omega),nF L (by omega)⟩,nB D (by omega),nB L (by omega)⟩,fun b hb=>?_⟩,fun _ _ h=>h⟩,fun b hb=>⟨?_,fun hI=>?_⟩⟩
  ·rcases hb with hb|rfl|rfl
   ·exact⟨(ok1.bd b hb).1,fun h=>(ok1.bd b hb).2 ((hInB b).2 (.inl h))⟩
   ·exact⟨by omega,fun h=>nIn _ (by omega) ((hInB _).2 (.inl h))⟩
   ·exact⟨by omega,fun h=>nIn _ (by omega) ((hInB _).2 (.inl h))⟩
  ·rcases hb with(hb|rfl|rfl)|⟨p,hp,hb,hre⟩
   ·exact(ok1.bd b hb).1
   ·omega
   ·omega
   ·obtain⟨i,hi⟩:=List.getElem?_of_mem hp
    rw[<-hb];exact(ok1.rel.obj i p (hsub0 i p hi)).1 hre
  ·rcases hb with(hb|rfl|rfl)|hb
   ·exact(ok1.bd b hb).2 ((hInB b).2 (.inr hI))
   ·exact nIn _ (by omega) ((hInB _).2 (.inr hI))
   ·exact nIn _ (by omega) ((hInB _).2 (.inr hI))
   ·exact hdis b hI hb
 have hB2:∀b,b<w.heap.size->R2.B G2 b->R.B s.g b∨InB Z0 b:=fun b hlt hb=>by
  rcases hb with(hb|rfl|rfl)|hb
  ·exact .inl hb
  ·omega
  ·omega
  ·exact .inr hb
 -- a step of the iterator's, told of the whole
 have goR:∀{FMa FMb:Mem} {Wa Wb:World},Goes R s.g FM Z w s.g FMa Z Wa->Goes R2 G2 FMa [pb] Wa G2 FMb [pb] Wb->Goes R s.g FM Z w s.g FMb Z Wb:=fun {FMa FMb Wa Wb} h k=>by
  refine⟨⟨fun b o hb=>k.ext.fm b o (h.ext.fm b o hb),fun b o hb=>?_,fun b hb=>.inl hb,fun b h1 h2 h3=>?_,Nat.le_trans h.ext.size k.ext.size,k.ext.os.trans h.ext.os,k.ext.tape.trans h.ext.tape,k.ext.output.trans h.ext.output⟩,fun b hb=>.inl hb,z5 _⟩
  ·rcases k.ext.grow b o hb with h1|h1|h1|h1
   ·exact h.ext.grow b o h1
   ·exact .inr (.inl (Nat.le_trans h.ext.size h1))
   ·exact .inr (.inr (.inl ((hInB b).2 (.inr h1))))
   ·rcases Nat.lt_or_ge b w.heap.size with hlt|hge
    ·rcases hB2 b hlt h1 with h2|h2
     ·exact .inr (.inr (.inr h2))
     ·exact .inr (.inr (.inl ((hInB b).2 (.inl h2))))
    ·exact .inr (.inl hge)
  ·refine(k.ext.keep b (Nat.lt_of_lt_of_le h1 h.ext.size) (fun hI=>h2 ((hInB b).2 (.inr hI))) (fun hb=>?_)).trans (h.ext.keep b h1 h2 h3)
   rcases hB2 b h1 hb with h4|h4
   ·exact h3 h4
   ·exact h2 ((hInB b).2 (.inl h4))
 have hJ:∀k W,J k W->W.cell? A=some (.int .u64 (Tb.cutN S k))/\W.frozen? A=false/\(∀b o,FM b=some o->W.heap[b]? = some o):=fun k W ⟨FMk,okk,_,_⟩=>by
  obtain⟨k1,k2⟩:=okk.rel.obj 0 pb rfl
  obtain⟨cs,e,b1,b2,b3,b4,_,b6⟩:=k2 (by omega)
  obtain⟨x,c1,c2,c3⟩:=b4 0 (by omega)
  have hx:x=.int .u64 (Tb.cutN S k):=c3
  subst hx
  refine⟨by rw[hA];simp only[World.cell?,b1];simpa using c1,by rw[hA];simp[World.frozen?,b1],fun b o hb=>okk.rel.fm b o (okk.j.2 b o hb)⟩
 have hJg:∀k W W',J k W->W.grownBy W' none->J k W':=fun k W W' ⟨FMk,okk,h1,h2⟩ hg=>
  let ⟨x1,x2⟩:=vK okk hg
  ⟨FMk,x1,goR h1 x2,h2.trans x2⟩
 have hset:∀k W,(∃FMk,Ok R2 [box k] G2 FMk [pb] W/\Goes R s.g FM Z w s.g FMk Z W/\Goes R2 G2 FM [pb] W1 G2 FMk [pb] W)->J (k+1) (W.setCell A (.int .u64 (Tb.cutN S (k+1)))):=fun k W ⟨FMk,okk,h1,h2⟩=>by
  obtain⟨k1,k2⟩:=okk.rel.obj 0 pb rfl
  obtain⟨cs,e,b1,b2,b3,b4,_,b6⟩:=k2 (by omega)
  have hAb:A.block=pb.1:=by rw[hA]
  have hAb':(⟨pb.1,pb.2.1,none⟩:Addr).block=pb.1:=rfl
  have hF:FMk pb.1=none:=b6 rfl
  have keep:∀b,b≠pb.1->(W.setCell A (.int .u64 (Tb.cutN S (k+1)))).heap[b]? = W.heap[b]?:= fun b hb=>RowKit.Below.heap_setCell _ _ _ b (by rw[hAb];exact hb)
  have hsz:(W.setCell A (.int .u64 (Tb.cutN S (k+1)))).heap.size=W.heap.size:=by
   show(W.heap.modify _ _).size=_
   rw[Array.size_modify]
  have hnew:(W.setCell A (.int .u64 (Tb.cutN S (k+1)))).heap[pb.1]? = some (.cells (cs.setIfInBounds pb.2.1 (.int .u64 (Tb.cutN S (k+1)))) e (0,0)):=by
   show(W.heap.modify A.block _)[pb.1]? = _
   rw[hAb,Array.getElem?_modify,b1,hA]
   simp
  have hrel:HRel FMk [pb] [box (k+1)] (W.setCell A (.int .u64 (Tb.cutN S (k+1)))):=by
   refine⟨fun b o hb=>(keep b (fun e=>by rw[e,hF] at hb;cases hb)).trans (okk.rel.fm b o hb),rfl,fun i p hi=>?_,fun i j p q hi hj _ _ _=>?_⟩
   ·have e0:i=0:=by
     have:=(List.getElem?_eq_some_iff.1 hi).1
     simpa using this
    subst e0
    have hi:pb=p:=by simpa using hi
    subst hi
    refine⟨fun h=>by rw[hsz];exact k1 h,fun _=>⟨_,e,hnew,by rw[Array.size_setIfInBounds];exact b2,by rw[Array.size_setIfInBounds];exact b3,fun j hj=>?_,fun h=>(by cases h),fun _=>hF⟩⟩
    have:j=0:=by omega
    subst this
    refine⟨.int .u64 (Tb.cutN S (k+1)),?_,rfl,rfl⟩
    show(cs.setIfInBounds pb.2.1 _)[pb.2.1]? = _
    rw[Array.getElem?_setIfInBounds_self_of_lt (by omega)]
   ·have e1:=(List.getElem?_eq_some_iff.1 hi).1
    have e2:=(List.getElem?_eq_some_iff.1 hj).1
    simp at e1 e2
    omega
  obtain⟨x1,x2⟩:=fx (hp':=[box (k+1)]) (Z':=[pb]) (w':=W.setCell A (.int .u64 (Tb.cutN S (k+1)))) okk hrel ⟨fun _ _ h=>h,fun _ _ h=>.inl h,fun _ h=>.inl h,fun b _ h _=>keep b (fun e=>h (by rw[e];exact hpin)),Nat.le_of_eq hsz.symm,rfl,rfl,rfl⟩ (z5 _)
  exact⟨FMk,x1,goR h1 x2,h2.trans x2⟩
 have hargI:∀(v:Nat) FMk (Zx:Plc),bI FMk Zx [.int .i64 (v:Int)] #[.int .i64 (v:Int)]:=fun v FMk Zx=>⟨rfl,fun i hi=>by
  have:i=0:=by simpa using hi
  subst this
  rfl⟩
 have hY:∀k W,k<K->k<(ai S).length->J k W->YieldAt Fence.wide (2-1) Tryd.prog L #[.int .i64 (((ai S).getD k 0:Nat):Int)] W fun e W'=>e=.returned (.bool true)/\W'.cell? A=some (.int .u64 (Tb.cutN S k))/\W'.frozen? A=false/\J (k+1) (W'.setCell A (.int .u64 (Tb.cutN S (k+1)))):=by
  rintro k W hk hkN ⟨FMk,okk,h1,h2⟩
  have hv:=qe (P:=Tryd.prog) (R:=R) (L:=L) hrec hs.size hfr0 hne (items:=[.int .i64 (((ai S).getD k 0:Nat):Int)]) hlen hlt (by exact⟨trivial,trivial⟩) (jmp:=none) (hp:=H) (hp':=H) (g:=s.g) (g':=s.g) rfl (hround k hk hkN) [box k]
  rcases hv.h with⟨f,_,_,he,_⟩|⟨l,he,hq⟩
  ·cases he
  ·cases he
   obtain⟨fn',tmps',assign',body',hr,hR⟩:=hq FMk [pb] W _ okk (hargI _ _ _)
   refine⟨fn',tmps',assign',body',hr,(hR .top _).mono ?_⟩
   rintro e W' ⟨FM',Z',⟨v,rfl,hden⟩,okp,gop⟩
   obtain rfl:Z'=[pb]:=by
    have hl1:Z'.length=1:=okp.rel.len
    match Z',hl1 with
    |[q],_=>
     have:=gop.sub 0 pb rfl
     cases this;rfl
   have hj:J k W':=⟨FM',okp,goR h1 gop,h2.trans gop⟩
   obtain⟨j1,j2,_⟩:=hJ k W' hj
   refine⟨by rw[show v=_ from hden];rfl,j1,j2,hset k W' hj⟩
 have okDead:∀{k FMk W},Ok R2 [box k] G2 FMk [pb] W->Goes R s.g FM Z w s.g FMk Z W->Ok R (H++[.dead]) s.g FMk Z W/\W.heap[D]? = some (.deferred (some []))/\W.heap[L]? = some (.loop (rec .ready none))/\Nb R D s.g FMk Z W/\Nb R L s.g FMk Z W:=by
  intro k FMk W okk hg
  obtain⟨okL,hmono⟩:=okk.j
  obtain⟨jR,hD3,hL3,⟨fD,fL⟩,bD,bL⟩:=okL.j
  have okR:=mU okL
  have hgd:∀i,i<m->ag (H++[.dead]) i=ag H i:=fun i hi=>jh (by rw[hl];exact hi)
  have hgdm:ag (H++[.dead]) m=.dead:=by rw[ji (by rw[hl];exact Nat.le_refl _),hl,Nat.sub_self];rfl
  have hback:∀i p,Z[i]? = some p->(i<m/\Z0[i]? = some p)∨(i=m/\p=pb):=fun i p hi=>by
   have:i<m+1:=by rw[<-hZl];exact(List.getElem?_eq_some_iff.1 hi).1
   rcases Nat.lt_or_ge i m with h|h
   ·exact .inl ⟨h,by rw[hZ0,List.getElem?_take,if_pos h];exact hi⟩
   ·have:i=m:=by omega
    subst this
    rw[hpb] at hi;cases hi
    exact .inr ⟨rfl,rfl⟩
  have hnl:∀i p,Z[i]? = some p->aE (ag (H++[.dead]) i)=true->i<m/\Z0[i]? = some p:=fun i p hi hv=>by
   rcases hback i p hi with h|⟨rfl,rfl⟩
   ·exact h
   ·rw[hgdm] at hv;cases hv
  refine⟨⟨⟨okR.rel.fm,by rw[hZl];simp[hl],fun i p hi=>?_,fun i j p q hi hj hv1 hv2 e=>?_⟩,okR.j,fun b hb=>⟨(okR.bd b hb).1,fun hI=>?_⟩⟩,hD3,hL3,?_,?_⟩
  ·rcases hback i p hi with⟨h1,h2⟩|⟨rfl,rfl⟩
   ·obtain⟨k1,k2⟩:=okR.rel.obj i p h2
    rw[hgd i h1]
    exact⟨k1,kS hsub0 k2⟩
   ·rw[hgdm]
    refine⟨fun hre=>?_,trivial⟩
    have h1:=(hs.ok.rel.obj i p hi).1 hre
    have:=hg.ext.size
    omega
  ·obtain⟨a1,a2⟩:=hnl i p hi hv1
   obtain⟨b1,b2⟩:=hnl j q hj hv2
   rw[hgd i a1] at hv1
   rw[hgd j b1] at hv2
   exact okR.rel.inj i j p q a2 b2 hv1 hv2 e
  ·rcases(hInB b).1 hI with h|h
   ·exact(okR.bd b hb).2 h
   ·exact(okk.bd b (.inl (.inl hb))).2 h
  ·exact⟨(Array.getElem?_eq_some_iff.1 hD3).1,nIn D (by omega),bD,fD⟩
  ·exact⟨(Array.getElem?_eq_some_iff.1 hL3).1,nIn L (by omega),bL,fL⟩
 let C0:Cx R:=⟨s.g,FM,Z,w,[],false⟩
 have hE:∀W,K<(ai S).length->J K W->YieldAt Fence.wide (2-1) Tryd.prog L #[.int .i64 (((ai S).getD K 0:Nat):Int)] W fun e W'=>(e=.returned (.bool false)∨∃ch,e=.panicked ch)/\kX R C0 D L rec (fun e s3=>Q e ⟨s.fr,s3.hp,s3.g⟩) e W':=by
  rintro W hK ⟨FMk,okk,h1,h2⟩
  obtain⟨okd,hDW,hLW,nD,nL⟩:=okDead okk h1
  obtain⟨fn',tmps',assign',body',hr,hR⟩:=vN (P:=Tryd.prog) (R:=R) hrec (C:=C0) (by show w.heap.size<=D;omega) (by show w.heap.size<=L;omega) hne okd h1 hDW hLW nD nL hs.size (fun t=>z7 h1.ext.fm _ (z5 _) (hs.fr t)) (hargI ((ai S).getD K 0) FMk Z) hlen hlt
   (Q:=fun e s3=>Q e ⟨s.fr,s3.hp,s3.g⟩) (by have:=hlast hK L;rw[show(H++[AObj.dead]).length=m+1 by simp[hl]];exact this)
  refine⟨fn',tmps',assign',body',hr,(hR .top _).mono ?_⟩
  intro e W' he
  have he':=he
  rcases he' with⟨ex,j,s3,FM3,Z3,e1,_⟩|⟨x,v,s3,FM3,Z3,e1,_⟩
  ·exact⟨.inl e1,he⟩
  ·exact⟨.inr ⟨_,e1⟩,he⟩
 have hargs:(xs++#[u])++ys=#[.func (.yield L) #[] #[],.pointer (some A)]:=by
  have hxs0:xs=#[]:=Array.size_eq_zero_iff.1 hxs
  have hd0:=hdb 0 (by omega)
  rw[hfb] at hd0
  obtain⟨p,hp1,hp2⟩:=hd0
  rw[hpb] at hp1;cases hp1
  subst hxs0
  have hy:ys=#[.pointer (some A)]:=by
   refine Array.ext (by simp[hys]) (fun i h1 h2=>?_)
   have:i=0:=by simp at h2;omega
   subst this
   rw[Array.getD_eq_getD_getElem?,Array.getElem?_eq_getElem h1] at hp2
   rw[hA]
   simpa using hp2
  rw[hy]
  rfl
 have hcalls:=callsIn_wide.1 (yP 2 (by omega) L S hS A FM (Tab.h (T:=LT) hs.ok.j) J (kX R C0 D L rec (fun e s3=>Q e ⟨s.fr,s3.hp,s3.g⟩)) K hJ hJg hY hE W1 ⟨FM,okI,go1,z2 _ _ _ _ _⟩)
 have hpl:cc Tryd.prog 105=true:=by kernel_rfl
 have hfn':∃fn,Tryd.prog.funcs[105]? = some fn/\fn.name ≠ "runtime.NumGoroutine"/\fn.body.isSome=true:=by
  unfold cc at hpl
  split at hpl
  ·rename_i fn hfn
   simp only[Bool.and_eq_true,bne_iff_ne,ne_eq] at hpl
   exact⟨fn,hfn,hpl.1,hpl.2⟩
  ·cases hpl
 obtain⟨fnF,hF1,hF2,hF3⟩:=hfn'
 have hF3':¬fnF.body=none:=fun h=>by rw[h] at hF3;cases hF3
 refine⟨L,[gp D],W1,{ target:=.fn (.func 105) ys,args:=xs++#[u] },W1,105,(xs++#[u])++ys,W1,?_,?_,fun _ _=>trivial,?_,fun h=>(by cases h),?_⟩
 ·rw[<-hW1,hrec,hD,hL];exact run_enterLoop_outer _ _ _ _ _
 ·simp[resolve,hu,Deferred.ofValue,u]
  rfl
 ·simp[invoke,callFunc,hF1,hF2,hF3']
 rw[hargs]
 refine(fQ hcalls).mono ?_
 have hsat':∀{hp3:List AObj} {g3:R.σ} {FM3:Mem} {Z3:Plc} {W:World},Ok R hp3 g3 FM3 Z3 W->Goes R s.g FM Z w g3 FM3 Z3 W->W.heap[D]? = some (.deferred (some []))->Nb R D g3 FM3 Z3 W ->
   Sat R C nt ⟨s.fr,hp3,g3⟩ FM3 Z3 { a with defers:=[gp D]++a.defers } W:=by
  intro hp3 g3 FM3 Z3 W ok3 go4 hD3 nD
  refine⟨ok3,hs.goes.trans go4,hs.size,?_,fun t=>z7 go4.ext.fm _ go4.sub (hs.fr t)⟩
  obtain⟨ms,e1,e2,e3,e4⟩:=hs.defs
  refine⟨D::ms,by rw[e1];rfl,List.nodup_cons.2 ⟨fun hmem=>?_,e2⟩,fun h=>?_,fun X hX=>?_⟩
  ·have:=(Array.getElem?_eq_some_iff.1 (e4 D hmem).obj).1
   omega
  ·rw[hC.2] at h;cases h
  ·rcases List.mem_cons.1 hX with rfl|hX
   ·exact⟨hD3,nD.off,nD.offB,nD.nofm,by have:=hs.goes.ext.size;omega⟩
   ·exact(e4 X hX).goes go4
 have hsat:∀{hp3:List AObj} {g3:R.σ} {FM3:Mem} {Z3:Plc} {W:World} (st:LoopState) (pe:Option Code),Ok R hp3 g3 FM3 Z3 W->Goes R s.g FM Z w g3 FM3 Z3 W->W.heap[D]? = some (.deferred (some []))->Nb R D g3 FM3 Z3 W->Nb R L g3 FM3 Z3 W ->
   Sat R C nt ⟨s.fr,hp3,g3⟩ FM3 Z3 { a with defers:=[gp D]++a.defers } (W.putObj L (.loop { rec st pe with state:=.exhausted })):=by
  intro hp3 g3 FM3 Z3 W st pe ok3 go3 hD3 nD nL
  have go4:Goes R s.g FM Z w g3 FM3 Z3 (W.putObj L (.loop { rec st pe with state:=.exhausted })):=go3.put (by omega) _
  exact hsat' (im _ nL.off nL.offB nL.nofm ok3) go4 ((World.putObj_heap_other hne).trans hD3) (nD.put _ _)
 rintro e w3 (⟨hNK,⟨v,rfl⟩,FMk,okk,h1,h2⟩|⟨hKN,⟨⟨v,rfl⟩,hL3⟩|⟨ch,rfl,hL3⟩⟩)
 ·obtain⟨okd,hD3,hL3,nD,nL⟩:=okDead okk h1
  have hend:=run_endLoop (P:=Tryd.prog) hL3 (by rw[hrec];intro h;cases h)
  obtain⟨p,w4,hend,hp,hw4⟩:∃p w4,(Instr.endLoop L).run Tryd.prog w3=.ok p w4/\p=none/\w4=w3.putObj L (.loop { rec .ready none with state:=.exhausted }):=⟨_,_,hend,by rw[hrec],rfl⟩
  subst hp
  have hs4:=hsat .ready none okd h1 hD3 nD nL
  rw[<-hw4] at hs4
  exact⟨none,w4,hend,_,hdone hNK,FMk,Z,hs4⟩
 ·rcases hL3 with⟨ex,j,s3,FM3,Z3,_,hj,hq,ok3,go3,hD3,hL3,nD,nL⟩|⟨_,_,_,_,_,he,_⟩
  rotate_left
  ·cases he
  have hend:=run_endLoop (P:=Tryd.prog) hL3 (by rw[hrec];intro h;cases h)
  obtain⟨p,w4,hend,hp,hw4⟩:∃p w4,(Instr.endLoop L).run Tryd.prog w3=.ok p w4/\p=some j/\w4=w3.putObj L (.loop { rec .done (some j) with state:=.exhausted }):=⟨_,_,hend,by rw[hrec],rfl⟩
  subst hp
  have hs4:=hsat .done (some j) ok3 go3 hD3 nD nL
  rw[<-hw4] at hs4
  refine⟨some j,w4,hend,?_⟩
  cases ex with
  |normal=>cases hj
  |pan v=>cases hj
  |ret=>cases hj;exact wpIn_ret ⟨_,hq,FM3,Z3,hs4⟩
  |exit id=>cases hj;exact wpIn_exit ⟨_,hq,FM3,Z3,hs4⟩
 ·rcases hL3 with⟨_,_,_,_,_,he,_⟩|⟨x,v,s3,FM3,Z3,he,hden,hq,ok3,go3,hD3,nD⟩
  ·cases he
  ·cases he
   exact⟨_,x,v,FM3,Z3,hq,hsat' ok3 go3 hD3 nD,rfl,hden⟩
theorem yQ [Tab LT R]{nt k0:Nat}{Q:AEx->St R.σ->Prop}{s:St R.σ}{t:Nat}{ps:Array Tmp}{assign body:Code}{fa fb:Nat->AV}{m S K:Nat}{H:List AObj}
  (hf:lk s.fr t=.fn 105 0 fa 1 fb) (hfb:fb 0=.ref m 0) (hS:S<2^24) (h0:s.hp=H++[.cells false 1 (fun _=>.int .u64 S)]) (hl:H.length=m)
  (hlive:du (H++[.cells false 1 (fun _=>.int .u64 S)])) (hBO:e7 m H) (hlen:1=ps.toList.length) (hlt:bw ps.toList nt=true) (ts:List Nat) (hBf:fY ts (fun t=>Below m (lk s.fr t)))
  (hround:∀k,k<K->k<(ai S).length->kT Tryd.prog R nt assign body none H s.g ⟨cE ps.toList [.int .i64 (((ai S).getD k 0:Nat):Int)] (dH ts s.fr),H,s.g⟩)
  (hlast:K<(ai S).length->∀pok l,wpA Tryd.prog R nt (m+1) (.inr l) assign (fun e s1=>e=.normal/\wpA Tryd.prog R nt s1.hp.length (.inr l) body (jz pok (fun e s3=>Q e ⟨s.fr,s3.hp,s3.g⟩)) s1) ⟨cE ps.toList [.int .i64 (((ai S).getD K 0:Nat):Int)] s.fr,H++[.dead],s.g⟩)
  (hdone:(ai S).length<=K->Q .normal ⟨s.fr,H++[.dead],s.g⟩) :
  wpA Tryd.prog R nt k0 .top (.rangeFunc (.tmp t) ps assign body) Q s:=fun _ hC _ _ _ hH=>wpIn_rangeFunc (fun _ _=>sr hf hfb hS h0 hl hlive hBO hlen hlt ts hBf hround (fun h=>hlast h _) hdone hC hH)
end
end Go.Avm.Pack
namespace Go.Avm.Pack
open Go Go.Avm Go.Proofs
open Go.IntKind (i64 u64)
open Go.Avm.AV (int bool any fz fp sl ow ref fn ifc val agg tup)
open Go.Avm.AObj (cells dead)
open Go.Avm.Oc (ret)
set_option maxRecDepth 4000
section
variable {R:Res}
def su (P:Program)(R:Res)(nt l:Nat)(b:Code)(q:List Nat)(pok:Prop)(Q:AEx->St R.σ->Prop):AEx->St R.σ->Prop
 |.normal,s=>Wp P R nt s.hp.length (.inr l) b q (jz pok Q) s
 |_,_=>False
theorem sw [Tab LT R]{nt k0:Nat}{b:Code}{p:List Nat}{Q:AEx->St R.σ->Prop}{s:St R.σ}(t:Nat)(psl:List Nat)(m:Nat)(hrl:io t psl (sub b p)=true){fa fb:Nat->AV}(hf:lk s.fr t=.fn 105 0 fa 1 fb)(hfb:fb 0=.ref m 0)
  (S K:Nat) (hS:S<2^24) (H:List AObj) (h0:To R k0 s ⟨s.fr,H++[.cells false 1 (fun _=>.int .u64 S)],s.g⟩) (hl:H.length=m)
  (hlive:du (H++[.cells false 1 (fun _=>.int .u64 S)])) (hBO:e7 m H) (hlen:1=psl.length) (hlt:bw psl nt=true) (ts:List Nat) (hBf:fY ts (fun t=>Below m (lk s.fr t)))
  (hround:∀k l,k<K->k<(ai S).length->Wp Tryd.prog R nt m (.inr l) b (p++[0]) (m4 Tryd.prog R nt m l b (p++[1]) none H s.g) ⟨cE psl [.int .i64 (((ai S).getD k 0:Nat):Int)] (dH ts s.fr),H,s.g⟩)
  (hlast:K<(ai S).length->∀pok l,Wp Tryd.prog R nt (m+1) (.inr l) b (p++[0]) (su Tryd.prog R nt l b (p++[1]) pok (fun e s3=>Q e ⟨s.fr,s3.hp,s3.g⟩)) ⟨cE psl [.int .i64 (((ai S).getD K 0:Nat):Int)] s.fr,H++[.dead],s.g⟩)
  (hdone:(ai S).length<=K->Q .normal ⟨s.fr,H++[.dead],s.g⟩) :
  Wp Tryd.prog R nt k0 .top b p Q s:=by
 obtain⟨ps,assign,body,hc,rfl⟩:∃ps assign body,sub b p=.rangeFunc (.tmp t) ps assign body/\ps.toList=psl:=by
  unfold io at hrl
  split at hrl
  ·rename_i u ps assign body hs
   simp only[Bool.and_eq_true] at hrl
   have:=Nat.eq_of_beq_eq_true hrl.1
   subst this
   exact⟨ps,assign,body,hs,jp hrl.2⟩
  ·cases hrl
 have e0:sub b (p++[0])=assign:=by rw[cd,hc];exact cH assign
 have e1:sub b (p++[1])=body:=by rw[cd,hc];exact cH body
 refine⟨?_⟩
 rw[hc]
 refine kz h0 (yQ (s:=⟨s.fr,H++[.cells false 1 (fun _=>.int .u64 S)],s.g⟩) (K:=K) hf hfb hS rfl hl hlive hBO hlen hlt ts hBf (fun k hk hkN l=>?_) (fun hK pok l=>?_) hdone)
 ·have h1:=(hround k l hk hkN).h
  rw[e0] at h1
  rw[show(St.hp ⟨cE ps.toList [.int .i64 (((ai S).getD k 0:Nat):Int)] (dH ts s.fr),H,s.g⟩).length=m from hl]
  refine hZ h1 (fun e s' hq=>?_)
  cases e with
  |normal=>
   have h2:=(show Wp _ _ _ _ _ _ _ _ _ from hq).h
   rw[e1] at h2
   exact⟨rfl,h2⟩
  |exit id=>exact hq.elim
  |ret=>exact hq.elim
  |pan v=>exact hq.elim
 ·have h1:=(hlast hK pok l).h
  rw[e0] at h1
  refine hZ h1 (fun e s' hq=>?_)
  cases e with
  |normal=>
   have h2:=(show Wp _ _ _ _ _ _ _ _ _ from hq).h
   rw[e1] at h2
   exact⟨rfl,h2⟩
  |exit id=>exact hq.elim
  |ret=>exact hq.elim
  |pan v=>exact hq.elim
end
def aH (l:List Nat):Nat->AV:=fun k=>ah (ak (l.getD k 0))
theorem fF {k:Nat}(l:List Nat)(j:Nat):Below k (aH l j):=trivial
theorem gA {f:Nat->Nat}(h:True){l:List Nat}{j:Nat}:aF f (aH l j)=aH l j:=rfl
theorem lK {p:Prg}{left a:Nat}(hg:hgP p a<2^24)(hl:left<2^24):(IntKind.u64.wrap ((BitVec.ofInt 64 (IntKind.u64.wrap ((BitVec.ofInt 64 (hgP p a:Int)&&&BitVec.ofInt 64 (left:Int)).toNat:Int)) &&& ~~~ BitVec.ofInt 64 (aw p a:Int)).toNat:Int)==0)=eJ p left a:=by
 rw[Tb.u64_and (bz hg) (bz hl),od (Nat.lt_of_le_of_lt Nat.and_le_right hl)]
 unfold eJ
 rw[Bool.eq_iff_iff,beq_iff_eq,beq_iff_eq]
 omega
theorem lM {p:Prg}(hr:∀r,r∈p.rules.l->aK r)(hx:∀r,r∈p.rules.l->∀l,l∈r.body.l->0<=l.atom/\l.atom<p.atoms){a c:Nat}(ha:a<24)(han:(a:Int)<p.atoms)(hc:c∈ai (hgP p a)):(c:Int)<p.atoms:=by
 obtain⟨m1,m2⟩:=Tb.mem_memN.1 hc
 rcases xN hx ((eu hr ha).1 m2) with rfl|h
 ·exact han
 ·exact h
theorem lN {L:List Nat}{w m c:Nat}{z:Nat->AV}{old:Nat->Nat->AV}(hm:m=L.length)(hold:∀i,i<m->old i 0=aH L i)(hc:c<(m+1)*1):aH (L++[w]) c=a8 1 m old (fun i j=>aj z 0 1 (fun _=>ah (ak w)) (0+i*1+j)) c:=by
 unfold a8 aH
 rw[List.getD_eq_getElem?_getD]
 by_cases h:c<m*1
 ·rw[if_pos h,show c/1=c by omega,show c%1=0 by omega,hold c omg,List.getElem?_append_left omg,<-List.getD_eq_getElem?_getD]
  rfl
 ·rw[if_neg h,List.getElem?_append_right omg,show c-L.length=0 by omega]
  show _=aj z 0 1 _ (0+(c-m*1)/1*1+(c-m*1)%1)
  rw[cS,if_pos omg]
  rfl
theorem Le.ow_nil {get:Nat->Nat->AV}{s o es:Nat}:Le (.ow true o 0 es) (.fz .nil s 0 get):=by
 intro FM Z v h
 obtain⟨a,rfl,ha⟩:=h.1 rfl
 obtain rfl:=ha rfl
 exact⟨fun _=>⟨rfl,none,0,rfl,rfl,rfl⟩,fun h=>(by cases h)⟩
theorem yR {f z:Nat->AV}{a c:Nat}(hc:c<(a+1)*1):f c=a8 1 a (fun i j=>f (i*1+j)) (fun i j=>aj z 0 1 (fun _=>f a) (0+i*1+j)) c:=by
 unfold a8
 by_cases h:c<a*1
 ·rw[if_pos h]
  show f c=f (c/1*1+c%1)
  rw[show c/1*1+c%1=c by omega]
 ·rw[if_neg h]
  show f c=aj z 0 1 _ (0+(c-a*1)/1*1+(c-a*1)%1)
  rw[cS,if_pos omg,show c=a by omega]
structure OrdOk (p:Prg)(x:Nat × List Nat × Nat):Prop where
 num:x.1=x.2.1.length
 few:x.1+(ai x.2.2).length<=24
 lt:x.2.2<2^24
 at_:∀a,a∈ai x.2.2->a<p.atoms.toNat
 ord:∃f,(ai x.2.2).length<f/\x.2.1++jX p f x.2.2=co p
theorem yS {p:Prg}(hr:∀r,r∈p.rules.l->aK r){m left:Nat}{L:List Nat}(h:OrdOk p (m,L,left))(h0:left≠0):OrdOk p (m+1,L++[aw p (dK p left)],dz left (aw p (dK p left)))/\(ai (dz left (aw p (dK p left)))).length<(ai left).length:=by
 obtain⟨o1,o2,o3,o4,f,f1,f2⟩:=h
 simp only at o1 o2 o3 o4 f1 f2
 have hlt:=xR hr o3 h0
 obtain⟨f,rfl⟩:∃k,f=k+1:=⟨f-1,omg⟩
 refine⟨⟨?_,?_,Nat.lt_of_le_of_lt rK o3,fun a ha=>o4 a ?_,f,?_,?_⟩,hlt⟩
 ·show m+1=(L++[_]).length
  rw[List.length_append,o1]
  rfl
 ·show m+1+(ai (dz left (aw p (dK p left)))).length<=24
  omega
 ·obtain⟨m1,m2⟩:=Tb.mem_memN.1 ha
  have m2:(dz left (aw p (dK p left))).testBit a=true:=m2
  rw[jW o3,Bool.and_eq_true] at m2
  exact Tb.mem_memN.2 ⟨m1,m2.1⟩
 ·show(ai (dz left _)).length<f
  omega
 ·rw[<-f2]
  show(L++[_])++jX p f _=L++(if left=0 then[] else _::jX p f _)
  rw[if_neg h0,List.append_assoc]
  rfl
theorem yT {p:Prg}(hp:1<=p.atoms/\p.atoms<=24):OrdOk p (0,[],2^p.atoms.toNat-1):=by
 have hb:∀j,(2^p.atoms.toNat-1).testBit j=decide (j<p.atoms.toNat):=fun j=>Nat.testBit_two_pow_sub_one _ _
 refine⟨rfl,?_,?_,fun a ha=>?_,25,?_,rfl⟩
 ·have:=gK (2^p.atoms.toNat-1)
  show 0+(ai (2^p.atoms.toNat-1)).length<=24
  omega
 ·have:2^p.atoms.toNat<=2^24:=Nat.pow_le_pow_right dcd omg
  have:0<2^p.atoms.toNat:=Nat.pow_pos dcd
  show 2^p.atoms.toNat-1<2^24
  omega
 ·have h:=(Tb.mem_memN.1 ha).2
  have h:(2^p.atoms.toNat-1).testBit a=true:=h
  rw[hb,decide_eq_true_eq] at h
  exact h
 ·have:=gK (2^p.atoms.toNat-1)
  show(ai (2^p.atoms.toNat-1)).length<25
  omega
theorem yU (R:Res)[Tab LT R](p:Prg)(hb:aJ p=true)(g:R.σ):Does Tryd.prog R 31 [av p] [] g (.ret (.tup 2 (nth [dh (co p).length (fun i=>ak ((co p).getD i 0)),.int .i64 0]))) [] g:=by
 have hroom:aB=140737488355328:=rfl
 obtain⟨hl,hr,hp,hh,hx⟩:=ff hb
 have hs:eh p:=gM hb
 have hp':1<=p.atoms/\p.atoms<=24:=hp
 refine spW (nt:=57) (rs:=[.tmp 2,.tmp 3]) (k0:=0) ?_
 have hc:((if aJ p then(0:Int) else 2) != 0)=false:=by rw[hb];rfl
 refine vcR [[1,0,0,1,0]] (lkL [(0,[1]),(1,[1,13]),(3,[1,4]),(4,[1,4,15,16])]) (lkL [(1,[(1,ROrc.pcall (int i64 (if aJ p=true then 0 else 2)))])]) (fun Q=>(fun (u1:Int)=>(fun (u2:AObj)=>2<=2/\(∀(hp:List AObj) (g:R.σ),true=true/\Does Tryd.prog R 16 [av p] hp g (ret (int i64 u1)) hp g)/\((u1 != 0)=true->WpC Tryd.prog R 57 0 31 [1,0,0,1,0] Q [Kont.seq [1,0,1]] (St.mk [(1,ref 0 0),(13,AV.bool (u1 != 0))] [u2] g))/\((u1 != 0)=false->1<=2/\WpC Tryd.prog R 57 0 31 [1,0,1,1,0,1,0] Q [Kont.blk 0,Kont.seq [1,0,1,1,1]] (St.mk [(1,ref 0 0),(4,ref 1 0),(15,int i64 p.atoms),(16,int i64 0)] [u2,cells false 1 fun a=>fz Fz.nil 0 0 fun x x_1=>any] g))) (cells false 2 (nth [int i64 p.atoms,af p.rules]))) (if aJ p=true then 0 else 2)) ⟨omg,(fun _ _=>⟨rfl,(fZ _ _ _ _ omg)⟩),fun hcc=>(nomatch (hc.symm.trans hcc)),fun _=>⟨omg,?_⟩⟩
 refine cD (gJ (fun _=>.any) 1) ?_
 refine cD (toL (s':=⟨[(1,.ref 0 0),(4,.ref 1 0),(15,.int .i64 p.atoms),(16,.int .i64 0)],[.cells false 2 (nth [.int .i64 p.atoms,af p.rules]),.cells false 1 (fun _=>.ow true 2 0 1),.cells false (0*1) (onC p)],g⟩) (h1:=?_) (h2:=?_)) ?_
 ·exact⟨zT _,zT _,zT _,zT _,trivial⟩
 ·exact⟨zW _,⟨rfl,Nat.le_refl _,fun _ _=>Le.nil_ow⟩,⟨rfl,Nat.le_refl _,fun j hj=>absurd hj omg⟩,trivial⟩
 refine(aX krf (fun (a:Nat)=>⟨[(1,ref 0 0),(4,ref 1 0),(15,int i64 p.atoms),(16,.int .i64 a)],[.cells false 2 (nth [.int .i64 p.atoms,af p.rules]),.cells false 1 (fun _=>.ow true 2 a 1),.cells false (a*1) (onC p)],g⟩) (fun (a:Nat)=>(a<=p.atoms.toNat)) (fun (a:Nat)=>(p.atoms.toNat-a)) 0 (aT ⟨zT _,zT _,zT _,(zU krf),trivial⟩ rfl rfl) ?_ (fun a hi=>?_))
 ·exact Nat.zero_le _
 ·refine vcR [] (lkL [(5,[1,4,15,16,17]),(6,[1,4,5,15,16]),(7,[1,4,15,16]),(8,[1,4,15,16])]) (lkL [(7,[(3,ROrc.pcall (int u64 (↑(hgP p (Int.toNat (↑a:Int))):Int))),(5,ROrc.val (Orc.obj (onC p))),(6,ROrc.val (Orc.obj (nth [ow true 4 (a+1) 1])))])]) (fun Q=>(fun (u1:Int)=>(fun (u2:AV)=>(fun (u3:AObj)=>(decide (u1<p.atoms)=true->Flw Tryd.prog/\1<=1/\2<=2/\(∀(hp:List AObj) (g:R.σ),true=true/\Does Tryd.prog R 70 [av p,int i64 u1] hp g (ret u2) hp g)/\0<1/\(a+1)*8<=aB/\a+1<=aB/\1<=1/\a*1<=a*1/\(∀(c:Nat),c<(a+1)*1->int u64 (↑(hgP p c):Int)=a8 1 a (fun (i j:Nat)=>int u64 (↑(hgP p (i*1+j)):Int)) (fun (i j:Nat)=>aj (fun (j:Nat)=>int u64 0) 0 1 (fun (x:Nat)=>u2) (0+i*1+j)) c)/\1<=1/\(∀(c:Nat),c<1->nth [ow true 4 (a+1) 1] c=aj (fun (x:Nat)=>ow true 2 a 1) 0 1 (fun (x:Nat)=>ow true 4 (a+1) 1) c)/\(-9223372036854775808<=u1+1/\u1+1<=9223372036854775807)/\Q AEx.normal (St.mk [(1,ref 0 0),(4,ref 1 0),(15,int i64 p.atoms),(16,int i64 (u1+1))] [u3,cells false 1 (nth [ow true 4 (a+1) 1]),dead,cells false 1 (aj (fun (j:Nat)=>int u64 0) 0 1 fun x=>u2),cells false ((a+1)*1) fun a=>int u64 (↑(hgP p a):Int)] g))/\(decide (u1<p.atoms)=false->Q (AEx.exit 0) (St.mk [(1,ref 0 0),(4,ref 1 0),(15,int i64 p.atoms),(16,int i64 u1),(17,AV.bool (decide (u1<p.atoms)))] [u3,cells false 1 fun x=>ow true 2 a 1,cells false (a*1) fun a=>int u64 (↑(hgP p a):Int)] g))) (cells false 2 (nth [int i64 p.atoms,af p.rules]))) (int u64 (↑(hgP p a):Int))) ((↑a:Int))) ⟨fun c1=>have c1:(↑a:Int)<p.atoms:=(of_decide_eq_true c1);⟨krf,omg,omg,(fun _ _=>⟨rfl,(rD _ _ _ omg omg (by simp at * <;> omega) _ _)⟩),omg,omg,omg,omg,omg,?_,omg,(fun c hc=>match c,hc with|0,_=>krf ),omg,?_⟩,fun c1=>have c1:¬(↑a:Int)<p.atoms:=(of_decide_eq_false c1);?_⟩
  ·exact fun c hc=>(yR (f:=onC p) (z:=fun _=>.int .u64 0) hc).trans krf
  ·refine(aQ (a+1) (toS [0,1,4] 5 (hob:=⟨⟨rfl,Nat.le_refl _,fun j hj=>match j,hj with|0,_=>(zT _)|1,_=>(zT _) ⟩,⟨rfl,Nat.le_refl _,fun j hj=>match j,hj with|0,_=>(zT _) ⟩,?_,trivial⟩)) ?_ ?_)
   ·exact⟨rfl,Nat.le_refl _,fun j _=>zU rfl⟩
   ·omega
   ·omega
  ·have ha:a=p.atoms.toNat:=by omega
   subst ha
   have hA:=fun (R:Res) (hp:List AObj) (g:R.σ)=>wy R p.atoms.toNat omg hp g
   rw[show((p.atoms.toNat:Nat):Int)=p.atoms by omega] at hA
   obtain⟨left0,hleft0⟩:∃l,2^p.atoms.toNat-1=l:=⟨_,rfl⟩
   simp only[hleft0] at hA
   obtain⟨n,hn⟩:∃n,p.atoms.toNat=n:=⟨_,rfl⟩
   rw[hn]
   refine⟨_,z6 _,vcR [] (lkL [(9,[1,4,6]),(10,[1,4,6,7]),(11,[4,6,7,8])]) (lkL [(9,[(2,ROrc.val (Orc.obj (nth [fn 82 0 (nth []) 1 (nth [ref 1 0])])))]),(11,[(2,ROrc.pcall (int u64 (↑left0:Int))),(4,ROrc.val (Orc.obj (nth [int u64 (↑left0:Int)])))])]) (fun Q=>(fun (u1:AV)=>(fun (u2:AV)=>1<=1/\(∀(c:Nat),c<1->nth [u2] c=aj (fun (a:Nat)=>AV.nilf) 0 1 (fun (x:Nat)=>u2) c)/\1<=2/\(∀(hp:List AObj) (g:R.σ),true=true/\Does Tryd.prog R 83 [int i64 p.atoms] hp g (ret u1) hp g)/\1<=1/\(∀(c:Nat),c<1->nth [u1] c=aj (fun (a:Nat)=>int u64 0) 0 1 (fun (x:Nat)=>u1) c)/\WpC Tryd.prog R 57 0 31 [1,0,1,1,1,1,1,1,1,0,0] Q [Kont.blk 2,Kont.seq [1,0,1,1,1,1,1,1,1,1]] (St.mk [(4,ref 1 0),(6,ref 3 0),(7,ref 4 0),(8,ref 5 0)] [cells false 2 (nth [int i64 p.atoms,af p.rules]),cells false 1 fun x=>ow true 2 n 1,cells false (n*1) fun a=>int u64 (↑(hgP p a):Int),cells false 1 (nth [u2]),cells false 1 fun a=>fz Fz.nil 0 0 fun x x_1=>any,cells false 1 (nth [u1])] g)) (fn 82 0 (nth []) 1 (nth [ref 1 0]))) (int u64 (↑left0:Int))) ⟨omg,(fun c hc=>match c,hc with|0,_=>krf ),omg,(fun _ _=>⟨rfl,(hA _ _ _)⟩),omg,(fun c hc=>match c,hc with|0,_=>krf ),?_⟩⟩
   refine cD (gJ (fun _=>.any) 1) ?_
   refine cD (toL (s':=⟨[(4,.ref 1 0),(6,.ref 3 0),(7,.ref 4 0),(8,.ref 5 0)],[.cells false 2 (nth [.int .i64 p.atoms,af p.rules]),.cells false 1 (fun _=>.ow true 2 n 1),.cells false (n*1) (onC p),.cells false 1 (fun _=>.fn 82 0 (nth []) 1 (nth [.ref 1 0])),.cells false 1 (fun _=>.ow true 6 0 1),.cells false 1 (fun _=>.int .u64 left0),.cells false (0*1) (aH [])],g⟩) (h1:=?_) (h2:=?_)) ?_
   ·exact⟨zT _,zT _,zT _,zT _,trivial⟩
   ·exact⟨zW _,zW _,zW _,⟨rfl,Nat.le_refl _,fun j hj=>match j,hj with|0,_=>zT _⟩,⟨rfl,Nat.le_refl _,fun _ _=>Le.nil_ow⟩,⟨rfl,Nat.le_refl _,fun j hj=>match j,hj with|0,_=>zT _⟩,⟨rfl,Nat.le_refl _,fun j hj=>absurd hj omg⟩,trivial⟩
   refine(aX krf (fun (x:Nat × List Nat × Nat)=>⟨[(4,ref 1 0),(6,ref 3 0),(7,ref 4 0),(8,ref 5 0)],[.cells false 2 (nth [.int .i64 p.atoms,af p.rules]),.cells false 1 (fun _=>.ow true 2 n 1),.cells false (n*1) (onC p),.cells false 1 (fun _=>.fn 82 0 (nth []) 1 (nth [.ref 1 0])),.cells false 1 (fun _=>.ow true 6 x.1 1),.cells false 1 (fun _=>.int .u64 x.2.2),.cells false (x.1*1) (aH x.2.1)],g⟩) (fun (x:Nat × List Nat × Nat)=>(OrdOk p x)) (fun (x:Nat × List Nat × Nat)=>((ai x.2.2).length)) (0,[],left0) (aT ⟨zT _,zT _,zT _,zT _,trivial⟩ rfl rfl) ?_ (fun x hi=>?_))
   ·rw[<-hleft0]
    exact yT hp'
   ·obtain⟨m,L,left⟩:=x
    have hok:=hi
    obtain⟨o1,o2,o3,o4,o5⟩:=hi
    simp only at o1 o2 o3 o4 o5
    have hat:0<n:=by omega
    refine vcR [] (lkL [(12,[4,6,7,8,31]),(13,[4,6,7,8,33])]) (lkL [(13,[(1,ROrc.call (fn 105 0 (nth []) 1 (nth [ref (List.length [cells false 2 (nth [int i64 p.atoms,af p.rules]),cells false 1 fun (x:Nat)=>ow true 2 n 1,cells false (n*1) fun (a:Nat)=>int u64 (↑(hgP p a):Int),cells false 1 fun (x:Nat)=>fn 82 0 (nth []) 1 (nth [ref 1 0]),cells false 1 fun (x:Nat)=>ow true 6 m 1,cells false 1 fun (x:Nat)=>int u64 (↑left:Int),cells false (m*1) fun (a:Nat)=>fz Fz.auto 1 (List.length (ak (List.getD L a 0)).l) fun (i x:Nat)=>ac (ak (List.getD L a 0)).l i]) 0])) ([cells false 2 (nth [int i64 p.atoms,af p.rules]),cells false 1 fun (x:Nat)=>ow true 2 n 1,cells false (n*1) fun (a:Nat)=>int u64 (↑(hgP p a):Int),cells false 1 fun (x:Nat)=>fn 82 0 (nth []) 1 (nth [ref 1 0]),cells false 1 fun (x:Nat)=>ow true 6 m 1,cells false 1 fun (x:Nat)=>int u64 (↑left:Int),cells false (m*1) fun (a:Nat)=>fz Fz.auto 1 (List.length (ak (List.getD L a 0)).l) fun (i x:Nat)=>ac (ak (List.getD L a 0)).l i]++[cells false 1 fun (x:Nat)=>int u64 (↑left:Int)]) g)])]) (fun Q=>(fun (u1:List AObj)=>(fun (u2:List AObj)=>1<=1/\(((↑left:Int) != 0)=true->1<=1/\(true=true/\Does Tryd.prog R 77 [int u64 (↑left:Int)] u2 g (ret (fn 105 0 (nth []) 1 (nth [ref 7 0]))) u1 g)/\WpC Tryd.prog R 57 0 31 [1,0,1,1,1,1,1,1,1,0,0,0,1,0,1,0] Q [Kont.blk 4,Kont.blk 3] (St.mk [(4,ref 1 0),(6,ref 3 0),(7,ref 4 0),(8,ref 5 0),(33,fn 105 0 (nth []) 1 (nth [ref 7 0]))] u1 g))/\(((↑left:Int) != 0)=false->Q (AEx.exit 2) (St.mk [(4,ref 1 0),(6,ref 3 0),(7,ref 4 0),(8,ref 5 0),(31,AV.bool ((↑left:Int) != 0))] u2 g))) ([cells false 2 (nth [int i64 p.atoms,af p.rules]),cells false 1 fun x=>ow true 2 n 1,cells false (n*1) fun a=>int u64 (↑(hgP p a):Int),cells false 1 fun x=>fn 82 0 (nth []) 1 (nth [ref 1 0]),cells false 1 fun x=>ow true 6 m 1,cells false 1 fun x=>int u64 (↑left:Int),cells false (m*1) fun a=>fz Fz.auto 1 (List.length (ak (List.getD L a 0)).l) fun i x=>ac (ak (List.getD L a 0)).l i])) ([cells false 2 (nth [int i64 p.atoms,af p.rules]),cells false 1 fun x=>ow true 2 n 1,cells false (n*1) fun a=>int u64 (↑(hgP p a):Int),cells false 1 fun x=>fn 82 0 (nth []) 1 (nth [ref 1 0]),cells false 1 fun x=>ow true 6 m 1,cells false 1 fun x=>int u64 (↑left:Int),cells false (m*1) fun a=>fz Fz.auto 1 (List.length (ak (List.getD L a 0)).l) fun i x=>ac (ak (List.getD L a 0)).l i,cells false 1 fun x=>int u64 (↑left:Int)])) ⟨omg,fun c1=>have c1:¬(↑left:Int)=0:=(bne_iff_ne.mp c1);⟨omg,⟨rfl,(cK _ _ _ _)⟩,?_⟩,fun c1=>have c1:(↑left:Int)=0:=(bne_eq_false_iff_eq.mp c1);?_⟩
    ·have hne:left≠0:=by omega
     have hnx:=yS hr hok hne
     obtain⟨k1,k2,k3,k4⟩:=rM hr o3 hne
     obtain⟨K,hK⟩:∃K,iB p left=K:=⟨_,rfl⟩
     obtain⟨A,hA'⟩:∃A,dK p left=A:=⟨_,rfl⟩
     rw[hK] at k1 k3
     rw[hA'] at k2 k4 hnx
     have hAK:(ai left).getD K 0=A:=by rw[<-hA',<-hK];rfl
     rcases Nat.eq_zero_or_pos m with hm0|hm0
     ·subst hm0
      have hL:L=[]:=List.length_eq_zero_iff.1 o1.symm
      subst hL
      refine cD (toS (s':=⟨[(4,.ref 1 0),(6,.ref 3 0),(7,.ref 4 0),(8,.ref 5 0),(33,.fn 105 0 (nth []) 1 (nth [.ref 6 0]))],[.cells false 2 (nth [.int .i64 p.atoms,af p.rules]),.cells false 1 (fun _=>.ow true 2 n 1),.cells false (n*1) (onC p),.cells false 1 (fun _=>.fn 82 0 (nth []) 1 (nth [.ref 1 0])),.cells false 1 (fun _=>.fz .nil 0 0 (fun _ _=>.any)),.cells false 1 (fun _=>.int .u64 left),.cells false 1 (fun _=>.int .u64 left)],g⟩) [0,1,2,3,4,5,7] 8 (hfr:=⟨zT _,zT _,zT _,zT _,Le.fn (fun i hi=>absurd hi (Nat.not_lt_zero i)) (fun i hi=>match i,hi with|0,_=>zT _),trivial⟩) (hob:=⟨⟨rfl,Nat.le_refl _,fun j hj=>match j,hj with|0,_=>zT _|1,_=>bk (by exact trivial)⟩,zW _,zW _,⟨rfl,Nat.le_refl _,fun j hj=>Le.fn (fun i hi=>absurd hi (Nat.not_lt_zero i)) (fun i hi=>match i,hi with|0,_=>zT _)⟩,⟨rfl,Nat.le_refl _,fun j hj=>Le.ow_nil⟩,zW _,zW _,trivial⟩)) ?_
      refine sw 33 [34] 6 krf rfl rfl left K o3 [.cells false 2 (nth [.int .i64 p.atoms,af p.rules]),.cells false 1 (fun _=>.ow true 2 n 1),.cells false (n*1) (onC p),.cells false 1 (fun _=>.fn 82 0 (nth []) 1 (nth [.ref 1 0])),.cells false 1 (fun _=>.fz .nil 0 0 (fun _ _=>.any)),.cells false 1 (fun _=>.int .u64 left)] (fC rfl rfl) rfl (by exact⟨omg,omg,omg,omg,omg,omg,omg,trivial⟩) (by exact⟨fun j hj=>(match j,hj with|0,_=>trivial|1,_=>trivial),fun _ _=>show 2<6 by omega,fun _ _=>trivial,fun _ _=>⟨trivial,trivial,show 1<6 by omega⟩,fun _ _=>trivial,fun _ _=>trivial,trivial⟩) rfl krf [4,6,7,8] (by exact⟨show 1<6 by omega,show 3<6 by omega,show 4<6 by omega,show 5<6 by omega,trivial⟩) (fun k l' hk hkN=>?_) (fun hKN pok l'=>?_) (fun h=>?_)
      ·obtain⟨a,ha⟩:∃a,(ai left).getD k 0=a:=⟨_,rfl⟩
       have ham:a∈ai left:=by rw[<-ha];exact bQ _ 0 hkN
       have han:a<n:=by rw[<-hn];exact o4 a ham
       have h3:=k3 k hk
       rw[ha] at h3 ⊢
       have hO:=fun (R:Res) [Tab LT R] (g:R.σ)=>lE R p n a hr omg omg (fun b hb=>by have:=lM hr hx (a:=a) omg omg hb;omega) g
       have hcd:=(lK (p:=p) (a:=a) (gP hr omg) o3).trans h3
       refine vcR [] (lkL [(14,[4,6,7,8,9])]) (fun _=>[]) (fun (Q:AEx->St R.σ->Prop)=>Q AEx.normal (St.mk [(4,ref 1 0),(6,ref 3 0),(7,ref 4 0),(8,ref 5 0),(9,int i64 (↑a:Int))] [cells false 2 (nth [int i64 p.atoms,af p.rules]),cells false 1 fun (x:Nat)=>ow true 2 n 1,cells false (n*1) fun (a:Nat)=>int u64 (↑(hgP p a):Int),cells false 1 fun (x:Nat)=>fn 82 0 (nth []) 1 (nth [ref 1 0]),cells false 1 fun (x:Nat)=>fz Fz.nil 0 0 fun (x x_1:Nat)=>any,cells false 1 fun (x:Nat)=>int u64 (↑left:Int)] g)) (?_)
       show Wp _ _ _ 6 _ _ _ _ _
       refine vcR [] (lkL [(15,[4,6,7,8,9,10]),(16,[4,6,7,8,10,46]),(17,[4,6,7,8,10]),(18,[4,6,7,8])]) (lkL [(15,[(2,ROrc.kcall (int u64 (↑(aw p a):Int)))]),(17,[(2,ROrc.callN (fn 105 0 (nth []) 1 (nth [ref (List.length [cells false 2 (nth [int i64 p.atoms,af p.rules]),cells false 1 fun (x:Nat)=>ow true 2 n 1,cells false (n*1) fun (a:Nat)=>int u64 (↑(hgP p a):Int),cells false 1 fun (x:Nat)=>fn 82 0 (nth []) 1 (nth [ref 1 0]),cells false 1 fun (x:Nat)=>fz Fz.nil 0 0 fun (x x_1:Nat)=>any,cells false 1 fun (x:Nat)=>int u64 (↑left:Int)]) 0])) [] [cells false 1 fun (x:Nat)=>int u64 (↑(aw p a):Int)] g),(3,ROrc.callN (ow true 7 (List.length (ai (aw p a))) 1) [(6,cells false 1 fun (j:Nat)=>any)] [cells false (List.length (ai (aw p a))*1) fun (j:Nat)=>int i64 (↑(List.getD (ai (aw p a)) j 0):Int)] g),(6,ROrc.val (Orc.obj (nth [ow true 9 1 1])))]),(18,[(3,ROrc.val (Orc.obj (nth [int u64 (IntKind.wrap u64 (↑(BitVec.toNat (BitVec.ofInt 64 (↑left:Int) &&& ~~~BitVec.ofInt 64 (↑(aw p a):Int))):Int))])))])]) (fun Q=>(fun (u1:List AObj)=>(fun (u2:Bool)=>(fun (u3:List AObj)=>(fun (u4:AV)=>(fun (u5:AObj)=>(fun (u6:AV)=>(fun (u7:AV)=>(fun (u8:AObj)=>(fun (u9:AObj)=>(fun (u10:AV)=>(fun (u11:AObj)=>(fun (u12:Bool)=>1<=1/\(true=true/\Does Tryd.prog R 82 [int i64 (↑a:Int),ref 1 0] u1 g (ret u10) u1 g)/\u12=true/\1<=1/\(0<=(↑a:Int)/\(↑a:Int)<(↑n:Int))/\a+1<=n*1/\1<=1/\(u2=true->u12=true/\1<=1/\(true=true/\Does Tryd.prog R 77 [u10] u1 g (ret (fn 105 0 (nth []) 1 (nth [ref 6 0]))) u3 g)/\(true=true/\Does Tryd.prog R 75 [fn 105 0 (nth []) 1 (nth [ref 6 0])] u3 g (ret u7) [u11,cells false 1 fun x=>ow true 2 n 1,u9,u8,cells false 1 fun x=>u6,cells false 1 fun x=>int u64 (↑left:Int),cells false 1 fun j=>any,u5] g)/\0<1/\24<=aB/\1<=aB/\1<=1/\1<=1/\(∀(c:Nat),c<1->nth [ow true 9 1 1] c=aj (fun (x:Nat)=>u6) 0 1 (fun (x:Nat)=>ow true 9 1 1) c)/\1<=1/\1<=1/\(∀(c:Nat),c<1->nth [u4] c=aj (fun (x:Nat)=>int u64 (↑left:Int)) 0 1 (fun (x:Nat)=>u4) c)/\Q (AEx.exit 3) (St.mk [(4,ref 1 0),(6,ref 3 0),(7,ref 4 0),(8,ref 5 0)] [u11,cells false 1 fun x=>ow true 2 n 1,u9,u8,cells false 1 (nth [ow true 9 1 1]),cells false 1 (nth [u4]),cells false 1 fun j=>any,u5,cells false 1 (aj (fun (j:Nat)=>u6) 0 1 fun x=>u7),cells false 1 (a8 1 0 (fun (x x_1:Nat)=>any) fun i j=>aj (fun (j:Nat)=>u6) 0 1 (fun (x:Nat)=>u7) (0+i*1+j))] g))/\(u2=false->Q AEx.normal (St.mk [(4,ref 1 0),(6,ref 3 0),(7,ref 4 0),(8,ref 5 0),(10,u10),(46,AV.bool u2)] u1 g))) (Tables.follows Tryd.prog.toTables Departure.mixedOrders)) (cells false 2 (nth [int i64 p.atoms,af p.rules]))) (int u64 (↑(aw p a):Int))) (cells false (n*1) fun a=>int u64 (↑(hgP p a):Int))) (cells false 1 fun x=>fn 82 0 (nth []) 1 (nth [ref 1 0]))) (ow true 7 (List.length (ai (aw p a))) 1)) (fz Fz.nil 0 0 fun x x_1=>any)) (cells false (List.length (ai (aw p a))*1) fun j=>int i64 (↑(List.getD (ai (aw p a)) j 0):Int))) (int u64 (IntKind.wrap u64 (↑(BitVec.toNat (BitVec.ofInt 64 (↑left:Int) &&& ~~~BitVec.ofInt 64 (↑(aw p a):Int))):Int)))) ([cells false 2 (nth [int i64 p.atoms,af p.rules]),cells false 1 fun x=>ow true 2 n 1,cells false (n*1) fun a=>int u64 (↑(hgP p a):Int),cells false 1 fun x=>fn 82 0 (nth []) 1 (nth [ref 1 0]),cells false 1 fun x=>fz Fz.nil 0 0 fun x x_1=>any,cells false 1 fun x=>int u64 (↑left:Int),cells false 1 fun x=>int u64 (↑(aw p a):Int)])) (IntKind.wrap u64 (↑(BitVec.toNat (BitVec.ofInt 64 (IntKind.wrap u64 (↑(BitVec.toNat (BitVec.ofInt 64 (↑(hgP p a):Int)&&&BitVec.ofInt 64 (↑left:Int))):Int)) &&& ~~~BitVec.ofInt 64 (↑(aw p a):Int))):Int)==0)) ([cells false 2 (nth [int i64 p.atoms,af p.rules]),cells false 1 fun x=>ow true 2 n 1,cells false (n*1) fun a=>int u64 (↑(hgP p a):Int),cells false 1 fun x=>fn 82 0 (nth []) 1 (nth [ref 1 0]),cells false 1 fun x=>fz Fz.nil 0 0 fun x x_1=>any,cells false 1 fun x=>int u64 (↑left:Int)])) ⟨omg,⟨rfl,(doT (T:=LT) [1,2] 6 (fun R _ g=>hO R g))⟩,krf,omg,omg,omg,omg,fun c1=>have c1:IntKind.wrap u64 (↑(BitVec.toNat (BitVec.ofInt 64 (IntKind.wrap u64 (↑(BitVec.toNat (BitVec.ofInt 64 (↑(hgP p a):Int)&&&BitVec.ofInt 64 (↑left:Int))):Int)) &&& ~~~BitVec.ofInt 64 (↑(aw p a):Int))):Int)=0:=(beq_iff_eq.mp c1);⟨krf,omg,⟨rfl,(cK _ _ _ _)⟩,⟨rfl,(doT (T:=LT) [6] 7 (fun R _ g=>ly R (aw p a) (by simp at * <;> omega) g))⟩,omg,omg,omg,omg,omg,(fun c hc=>match c,hc with|0,_=>krf ),omg,omg,(fun c hc=>match c,hc with|0,_=>krf ),?_⟩,fun c1=>have c1:¬IntKind.wrap u64 (↑(BitVec.toNat (BitVec.ofInt 64 (IntKind.wrap u64 (↑(BitVec.toNat (BitVec.ofInt 64 (↑(hgP p a):Int)&&&BitVec.ofInt 64 (↑left:Int))):Int)) &&& ~~~BitVec.ofInt 64 (↑(aw p a):Int))):Int)=0:=(beq_eq_false_iff_ne.mp c1);?_⟩
       ·exfalso
        rename_i c0
        exact absurd (hcd.symm.trans c0) dcd
       ·refine(eE rfl (aT trivial rfl rfl))
      ·rw[hAK]
       have han:A<n:=by rw[<-hn];exact o4 A k4
       have hO:=fun (R:Res) [Tab LT R] (g:R.σ)=>lE R p n A hr omg omg (fun b hb=>by have:=lM hr hx (a:=A) omg omg hb;omega) g
       have hcd:=(lK (p:=p) (a:=A) (gP hr omg) o3).trans k2
       have hw24:=rE p A
       have hC:=fun (R:Res) [Tab LT R] (s:Nat) (hs:s<2^24) (g:R.σ)=>jU R s hs g
       refine vcR [] (lkL [(14,[4,6,7,8,9])]) (fun _=>[]) (fun (Q:AEx->St R.σ->Prop)=>Q AEx.normal (St.mk [(4,ref 1 0),(6,ref 3 0),(7,ref 4 0),(8,ref 5 0),(9,int i64 (↑A:Int))] [cells false 2 (nth [int i64 p.atoms,af p.rules]),cells false 1 fun (x:Nat)=>ow true 2 n 1,cells false (n*1) fun (a:Nat)=>int u64 (↑(hgP p a):Int),cells false 1 fun (x:Nat)=>fn 82 0 (nth []) 1 (nth [ref 1 0]),cells false 1 fun (x:Nat)=>fz Fz.nil 0 0 fun (x x_1:Nat)=>any,cells false 1 fun (x:Nat)=>int u64 (↑left:Int),dead] g)) (?_)
       show Wp _ _ _ 7 _ _ _ _ _
       refine vcR [] (lkL [(15,[4,6,7,8,9,10]),(16,[4,6,7,8,10,46]),(17,[4,6,7,8,10]),(18,[4,6,7,8])]) (lkL [(15,[(2,ROrc.kcall (int u64 (↑(aw p A):Int)))]),(17,[(2,ROrc.callN (fn 105 0 (nth []) 1 (nth [ref (List.length [cells false 2 (nth [int i64 p.atoms,af p.rules]),cells false 1 fun (x:Nat)=>ow true 2 n 1,cells false (n*1) fun (a:Nat)=>int u64 (↑(hgP p a):Int),cells false 1 fun (x:Nat)=>fn 82 0 (nth []) 1 (nth [ref 1 0]),cells false 1 fun (x:Nat)=>fz Fz.nil 0 0 fun (x x_1:Nat)=>any,cells false 1 fun (x:Nat)=>int u64 (↑left:Int),dead]) 0])) [] [cells false 1 fun (x:Nat)=>int u64 (↑(aw p A):Int)] g),(3,ROrc.callS (fz Fz.auto 1 (List.length (ak (aw p A)).l) fun (i x:Nat)=>ac (ak (aw p A)).l i) [(7,cells false 1 fun (j:Nat)=>any)] g),(5,ROrc.val (Orc.obj (aH ([]++[aw p A])))),(6,ROrc.val (Orc.obj (nth [ow true 9 1 1])))]),(18,[(3,ROrc.val (Orc.obj (nth [int u64 (IntKind.wrap u64 (↑(BitVec.toNat (BitVec.ofInt 64 (↑left:Int) &&& ~~~BitVec.ofInt 64 (↑(aw p A):Int))):Int))])))])]) (fun Q=>(fun (u1:List AObj)=>(fun (u2:Bool)=>(fun (u3:List AObj)=>(fun (u4:AV)=>(fun (u5:AV)=>(fun (u6:AV)=>(fun (u7:AObj)=>(fun (u8:AObj)=>(fun (u9:AV)=>(fun (u10:AObj)=>(fun (u11:Bool)=>1<=1/\(true=true/\Does Tryd.prog R 82 [int i64 (↑A:Int),ref 1 0] u1 g (ret u9) u1 g)/\u11=true/\1<=1/\(0<=(↑A:Int)/\(↑A:Int)<(↑n:Int))/\A+1<=n*1/\1<=1/\(u2=true->u11=true/\1<=1/\(true=true/\Does Tryd.prog R 77 [u9] u1 g (ret (fn 105 0 (nth []) 1 (nth [ref 7 0]))) u3 g)/\(true=true/\Does Tryd.prog R 75 [fn 105 0 (nth []) 1 (nth [ref 7 0])] u3 g (ret u5) [u10,cells false 1 fun x=>ow true 2 n 1,u8,u7,cells false 1 fun x=>u6,cells false 1 fun x=>int u64 (↑left:Int),dead,cells false 1 fun j=>any] g)/\0<1/\24<=aB/\1<=aB/\1<=1/\(∀(c:Nat),c<1->(fz Fz.auto 1 (List.length (ak (List.getD ([]++[aw p A]) c 0)).l) fun i x=>ac (ak (List.getD ([]++[aw p A]) c 0)).l i)=a8 1 0 (fun (x x_1:Nat)=>any) (fun (i j:Nat)=>aj (fun (j:Nat)=>u6) 0 1 (fun (x:Nat)=>u5) (0+i*1+j)) c)/\1<=1/\(∀(c:Nat),c<1->nth [ow true 9 1 1] c=aj (fun (x:Nat)=>u6) 0 1 (fun (x:Nat)=>ow true 9 1 1) c)/\1<=1/\1<=1/\(∀(c:Nat),c<1->nth [u4] c=aj (fun (x:Nat)=>int u64 (↑left:Int)) 0 1 (fun (x:Nat)=>u4) c)/\Q (AEx.exit 3) (St.mk [(4,ref 1 0),(6,ref 3 0),(7,ref 4 0),(8,ref 5 0)] [u10,cells false 1 fun x=>ow true 2 n 1,u8,u7,cells false 1 (nth [ow true 9 1 1]),cells false 1 (nth [u4]),dead,cells false 1 fun j=>any,cells false 1 (aj (fun (j:Nat)=>u6) 0 1 fun x=>u5),cells false 1 fun a=>fz Fz.auto 1 (List.length (ak (List.getD ([]++[aw p A]) a 0)).l) fun i x=>ac (ak (List.getD ([]++[aw p A]) a 0)).l i] g))/\(u2=false->Q AEx.normal (St.mk [(4,ref 1 0),(6,ref 3 0),(7,ref 4 0),(8,ref 5 0),(10,u9),(46,AV.bool u2)] u1 g))) (Tables.follows Tryd.prog.toTables Departure.mixedOrders)) (cells false 2 (nth [int i64 p.atoms,af p.rules]))) (int u64 (↑(aw p A):Int))) (cells false (n*1) fun a=>int u64 (↑(hgP p a):Int))) (cells false 1 fun x=>fn 82 0 (nth []) 1 (nth [ref 1 0]))) (fz Fz.nil 0 0 fun x x_1=>any)) (fz Fz.auto 1 (List.length (ak (aw p A)).l) fun i x=>ac (ak (aw p A)).l i)) (int u64 (IntKind.wrap u64 (↑(BitVec.toNat (BitVec.ofInt 64 (↑left:Int) &&& ~~~BitVec.ofInt 64 (↑(aw p A):Int))):Int)))) ([cells false 2 (nth [int i64 p.atoms,af p.rules]),cells false 1 fun x=>ow true 2 n 1,cells false (n*1) fun a=>int u64 (↑(hgP p a):Int),cells false 1 fun x=>fn 82 0 (nth []) 1 (nth [ref 1 0]),cells false 1 fun x=>fz Fz.nil 0 0 fun x x_1=>any,cells false 1 fun x=>int u64 (↑left:Int),dead,cells false 1 fun x=>int u64 (↑(aw p A):Int)])) (IntKind.wrap u64 (↑(BitVec.toNat (BitVec.ofInt 64 (IntKind.wrap u64 (↑(BitVec.toNat (BitVec.ofInt 64 (↑(hgP p A):Int)&&&BitVec.ofInt 64 (↑left:Int))):Int)) &&& ~~~BitVec.ofInt 64 (↑(aw p A):Int))):Int)==0)) ([cells false 2 (nth [int i64 p.atoms,af p.rules]),cells false 1 fun x=>ow true 2 n 1,cells false (n*1) fun a=>int u64 (↑(hgP p a):Int),cells false 1 fun x=>fn 82 0 (nth []) 1 (nth [ref 1 0]),cells false 1 fun x=>fz Fz.nil 0 0 fun x x_1=>any,cells false 1 fun x=>int u64 (↑left:Int),dead])) ⟨omg,⟨rfl,(doT (T:=LT) [1,2] 7 (fun R _ g=>hO R g))⟩,krf,omg,omg,omg,omg,fun c1=>have c1:IntKind.wrap u64 (↑(BitVec.toNat (BitVec.ofInt 64 (IntKind.wrap u64 (↑(BitVec.toNat (BitVec.ofInt 64 (↑(hgP p A):Int)&&&BitVec.ofInt 64 (↑left:Int))):Int)) &&& ~~~BitVec.ofInt 64 (↑(aw p A):Int))):Int)=0:=(beq_iff_eq.mp c1);⟨krf,omg,⟨rfl,(cK _ _ _ _)⟩,⟨rfl,(doT (T:=LT) [7] 8 (fun R _ g=>hC R (aw p A) omg g))⟩,omg,omg,omg,omg,?_,omg,(fun c hc=>match c,hc with|0,_=>krf ),omg,omg,(fun c hc=>match c,hc with|0,_=>krf ),?_⟩,fun c1=>have c1:¬IntKind.wrap u64 (↑(BitVec.toNat (BitVec.ofInt 64 (IntKind.wrap u64 (↑(BitVec.toNat (BitVec.ofInt 64 (↑(hgP p A):Int)&&&BitVec.ofInt 64 (↑left:Int))):Int)) &&& ~~~BitVec.ofInt 64 (↑(aw p A):Int))):Int)=0:=(beq_eq_false_iff_ne.mp c1);?_⟩
       ·exact fun c hc=>(lN (L:=[]) (m:=0) (z:=fun _=>.fz .nil 0 0 (fun _ _=>.any)) (old:=fun _ _=>.any) (by assumption) (fun i hi=>absurd hi (Nat.not_lt_zero i)) hc).trans krf
       ·show Cl R 0 (fy _ _) AEx.normal _
        refine(aQ (0+1,[]++[aw p A],dz left (aw p A)) (toS [0,1,2,3,4,5,9] 10 (hob:=⟨⟨rfl,Nat.le_refl _,fun j hj=>match j,hj with|0,_=>(zT _)|1,_=>(zT _) ⟩,⟨rfl,Nat.le_refl _,fun j hj=>match j,hj with|0,_=>(zT _) ⟩,?_,⟨rfl,Nat.le_refl _,fun j hj=>match j,hj with|0,_=>(Le.fn (fun i hi=>absurd hi omg) (fun i hi=>match i,hi with|0,_=>(zT _) )) ⟩,⟨rfl,Nat.le_refl _,fun j hj=>match j,hj with|0,_=>(zT _) ⟩,⟨rfl,Nat.le_refl _,fun j hj=>match j,hj with|0,_=>(zU ?_) ⟩,⟨rfl,Nat.le_refl _,fun j hj=>match j,hj with|0,_=>(zT _) ⟩,trivial⟩)) ?_ ?_)
        ·exact⟨rfl,Nat.le_refl _,fun j _=>zU rfl⟩
        ·show AV.int .u64 _=AV.int .u64 _
         rw[od o3]
        ·exact hnx.1
        ·exact hnx.2
       ·exfalso
        rename_i c0
        exact absurd (hcd.symm.trans c0) dcd
      ·exact absurd k1 omg
     ·refine sw 33 [34] 7 krf rfl rfl left K o3 [.cells false 2 (nth [.int .i64 p.atoms,af p.rules]),.cells false 1 (fun _=>.ow true 2 n 1),.cells false (n*1) (onC p),.cells false 1 (fun _=>.fn 82 0 (nth []) 1 (nth [.ref 1 0])),.cells false 1 (fun _=>.ow true 6 m 1),.cells false 1 (fun _=>.int .u64 left),.cells false (m*1) (aH L)] (fC rfl rfl) rfl (by exact⟨omg,omg,omg,omg,omg,omg,omg,omg,trivial⟩) (by exact⟨fun j hj=>(match j,hj with|0,_=>trivial|1,_=>trivial),fun _ _=>show 2<7 by omega,fun _ _=>trivial,fun _ _=>⟨trivial,trivial,show 1<7 by omega⟩,fun _ _=>show 6<7 by omega,fun _ _=>trivial,fun _ _=>trivial,trivial⟩) rfl krf [4,6,7,8] (by exact⟨show 1<7 by omega,show 3<7 by omega,show 4<7 by omega,show 5<7 by omega,trivial⟩) (fun k l' hk hkN=>?_) (fun hKN pok l'=>?_) (fun h=>?_)
      ·obtain⟨a,ha⟩:∃a,(ai left).getD k 0=a:=⟨_,rfl⟩
       have ham:a∈ai left:=by rw[<-ha];exact bQ _ 0 hkN
       have han:a<n:=by rw[<-hn];exact o4 a ham
       have h3:=k3 k hk
       rw[ha] at h3 ⊢
       have hO:=fun (R:Res) [Tab LT R] (g:R.σ)=>lE R p n a hr omg omg (fun b hb=>by have:=lM hr hx (a:=a) omg omg hb;omega) g
       have hcd:=(lK (p:=p) (a:=a) (gP hr omg) o3).trans h3
       refine vcR [] (lkL [(14,[4,6,7,8,9])]) (fun _=>[]) (fun (Q:AEx->St R.σ->Prop)=>Q AEx.normal (St.mk [(4,ref 1 0),(6,ref 3 0),(7,ref 4 0),(8,ref 5 0),(9,int i64 (↑a:Int))] [cells false 2 (nth [int i64 p.atoms,af p.rules]),cells false 1 fun (x:Nat)=>ow true 2 n 1,cells false (n*1) fun (a:Nat)=>int u64 (↑(hgP p a):Int),cells false 1 fun (x:Nat)=>fn 82 0 (nth []) 1 (nth [ref 1 0]),cells false 1 fun (x:Nat)=>ow true 6 m 1,cells false 1 fun (x:Nat)=>int u64 (↑left:Int),cells false (m*1) fun (a:Nat)=>fz Fz.auto 1 (List.length (ak (List.getD L a 0)).l) fun (i x:Nat)=>ac (ak (List.getD L a 0)).l i] g)) (?_)
       show Wp _ _ _ 7 _ _ _ _ _
       refine vcR [] (lkL [(15,[4,6,7,8,9,10]),(16,[4,6,7,8,10,46]),(17,[4,6,7,8,10]),(18,[4,6,7,8])]) (lkL [(15,[(2,ROrc.kcall (int u64 (↑(aw p a):Int)))]),(17,[(2,ROrc.callN (fn 105 0 (nth []) 1 (nth [ref (List.length [cells false 2 (nth [int i64 p.atoms,af p.rules]),cells false 1 fun (x:Nat)=>ow true 2 n 1,cells false (n*1) fun (a:Nat)=>int u64 (↑(hgP p a):Int),cells false 1 fun (x:Nat)=>fn 82 0 (nth []) 1 (nth [ref 1 0]),cells false 1 fun (x:Nat)=>ow true 6 m 1,cells false 1 fun (x:Nat)=>int u64 (↑left:Int),cells false (m*1) fun (a:Nat)=>fz Fz.auto 1 (List.length (ak (List.getD L a 0)).l) fun (i x:Nat)=>ac (ak (List.getD L a 0)).l i]) 0])) [] [cells false 1 fun (x:Nat)=>int u64 (↑(aw p a):Int)] g),(3,ROrc.callN (ow true 8 (List.length (ai (aw p a))) 1) [(7,cells false 1 fun (j:Nat)=>any)] [cells false (List.length (ai (aw p a))*1) fun (j:Nat)=>int i64 (↑(List.getD (ai (aw p a)) j 0):Int)] g),(6,ROrc.val (Orc.obj (nth [ow true 10 (m+1) 1])))]),(18,[(3,ROrc.val (Orc.obj (nth [int u64 (IntKind.wrap u64 (↑(BitVec.toNat (BitVec.ofInt 64 (↑left:Int) &&& ~~~BitVec.ofInt 64 (↑(aw p a):Int))):Int))])))])]) (fun Q=>(fun (u1:List AObj)=>(fun (u2:List AObj)=>(fun (u3:Bool)=>(fun (u4:AV)=>(fun (u5:AObj)=>(fun (u6:AV)=>(fun (u7:AObj)=>(fun (u8:AObj)=>(fun (u9:AV)=>(fun (u10:AObj)=>(fun (u11:Bool)=>1<=1/\(true=true/\Does Tryd.prog R 82 [int i64 (↑a:Int),ref 1 0] u1 g (ret u9) u1 g)/\u11=true/\1<=1/\(0<=(↑a:Int)/\(↑a:Int)<(↑n:Int))/\a+1<=n*1/\1<=1/\(u3=true->u11=true/\1<=1/\(true=true/\Does Tryd.prog R 77 [u9] u1 g (ret (fn 105 0 (nth []) 1 (nth [ref 7 0]))) u2 g)/\(true=true/\Does Tryd.prog R 75 [fn 105 0 (nth []) 1 (nth [ref 7 0])] u2 g (ret u6) [u10,cells false 1 fun x=>ow true 2 n 1,u8,u7,cells false 1 fun x=>ow true 6 m 1,cells false 1 fun x=>int u64 (↑left:Int),cells false (m*1) fun a=>fz Fz.auto 1 (List.length (ak (List.getD L a 0)).l) fun i x=>ac (ak (List.getD L a 0)).l i,cells false 1 fun j=>any,u5] g)/\0<1/\(m+1)*24<=aB/\m+1<=aB/\1<=1/\m*1<=m*1/\1<=1/\(∀(c:Nat),c<1->nth [ow true 10 (m+1) 1] c=aj (fun (x:Nat)=>ow true 6 m 1) 0 1 (fun (x:Nat)=>ow true 10 (m+1) 1) c)/\1<=1/\1<=1/\(∀(c:Nat),c<1->nth [u4] c=aj (fun (x:Nat)=>int u64 (↑left:Int)) 0 1 (fun (x:Nat)=>u4) c)/\Q (AEx.exit 3) (St.mk [(4,ref 1 0),(6,ref 3 0),(7,ref 4 0),(8,ref 5 0)] [u10,cells false 1 fun x=>ow true 2 n 1,u8,u7,cells false 1 (nth [ow true 10 (m+1) 1]),cells false 1 (nth [u4]),dead,cells false 1 fun j=>any,u5,cells false 1 (aj (fun (j:Nat)=>fz Fz.nil 0 0 fun x x_1=>any) 0 1 fun x=>u6),cells false ((m+1)*1) (a8 1 m (fun (i j:Nat)=>fz Fz.auto 1 (List.length (ak (List.getD L (i*1+j) 0)).l) fun i_1 x=>ac (ak (List.getD L (i*1+j) 0)).l i_1) fun i j=>aj (fun (j:Nat)=>fz Fz.nil 0 0 fun x x_1=>any) 0 1 (fun (x:Nat)=>u6) (0+i*1+j))] g))/\(u3=false->Q AEx.normal (St.mk [(4,ref 1 0),(6,ref 3 0),(7,ref 4 0),(8,ref 5 0),(10,u9),(46,AV.bool u3)] u1 g))) (Tables.follows Tryd.prog.toTables Departure.mixedOrders)) (cells false 2 (nth [int i64 p.atoms,af p.rules]))) (int u64 (↑(aw p a):Int))) (cells false (n*1) fun a=>int u64 (↑(hgP p a):Int))) (cells false 1 fun x=>fn 82 0 (nth []) 1 (nth [ref 1 0]))) (ow true 8 (List.length (ai (aw p a))) 1)) (cells false (List.length (ai (aw p a))*1) fun j=>int i64 (↑(List.getD (ai (aw p a)) j 0):Int))) (int u64 (IntKind.wrap u64 (↑(BitVec.toNat (BitVec.ofInt 64 (↑left:Int) &&& ~~~BitVec.ofInt 64 (↑(aw p a):Int))):Int)))) (IntKind.wrap u64 (↑(BitVec.toNat (BitVec.ofInt 64 (IntKind.wrap u64 (↑(BitVec.toNat (BitVec.ofInt 64 (↑(hgP p a):Int)&&&BitVec.ofInt 64 (↑left:Int))):Int)) &&& ~~~BitVec.ofInt 64 (↑(aw p a):Int))):Int)==0)) ([cells false 2 (nth [int i64 p.atoms,af p.rules]),cells false 1 fun x=>ow true 2 n 1,cells false (n*1) fun a=>int u64 (↑(hgP p a):Int),cells false 1 fun x=>fn 82 0 (nth []) 1 (nth [ref 1 0]),cells false 1 fun x=>ow true 6 m 1,cells false 1 fun x=>int u64 (↑left:Int),cells false (m*1) fun a=>fz Fz.auto 1 (List.length (ak (List.getD L a 0)).l) fun i x=>ac (ak (List.getD L a 0)).l i,cells false 1 fun x=>int u64 (↑(aw p a):Int)])) ([cells false 2 (nth [int i64 p.atoms,af p.rules]),cells false 1 fun x=>ow true 2 n 1,cells false (n*1) fun a=>int u64 (↑(hgP p a):Int),cells false 1 fun x=>fn 82 0 (nth []) 1 (nth [ref 1 0]),cells false 1 fun x=>ow true 6 m 1,cells false 1 fun x=>int u64 (↑left:Int),cells false (m*1) fun a=>fz Fz.auto 1 (List.length (ak (List.getD L a 0)).l) fun i x=>ac (ak (List.getD L a 0)).l i])) ⟨omg,⟨rfl,(doT (T:=LT) [1,2] 7 (fun R _ g=>hO R g))⟩,krf,omg,omg,omg,omg,fun c1=>have c1:IntKind.wrap u64 (↑(BitVec.toNat (BitVec.ofInt 64 (IntKind.wrap u64 (↑(BitVec.toNat (BitVec.ofInt 64 (↑(hgP p a):Int)&&&BitVec.ofInt 64 (↑left:Int))):Int)) &&& ~~~BitVec.ofInt 64 (↑(aw p a):Int))):Int)=0:=(beq_iff_eq.mp c1);⟨krf,omg,⟨rfl,(cK _ _ _ _)⟩,⟨rfl,(doT (T:=LT) [7] 8 (fun R _ g=>ly R (aw p a) (by simp at * <;> omega) g) (e3:=by exact⟨zV,zV,zV,zV,zV,zV,zV,zV,zV,trivial⟩))⟩,omg,omg,omg,omg,omg,omg,(fun c hc=>match c,hc with|0,_=>krf ),omg,omg,(fun c hc=>match c,hc with|0,_=>krf ),?_⟩,fun c1=>have c1:¬IntKind.wrap u64 (↑(BitVec.toNat (BitVec.ofInt 64 (IntKind.wrap u64 (↑(BitVec.toNat (BitVec.ofInt 64 (↑(hgP p a):Int)&&&BitVec.ofInt 64 (↑left:Int))):Int)) &&& ~~~BitVec.ofInt 64 (↑(aw p a):Int))):Int)=0:=(beq_eq_false_iff_ne.mp c1);?_⟩
       ·exfalso
        rename_i c0
        exact absurd (hcd.symm.trans c0) dcd
       ·refine(eE rfl (aT trivial rfl rfl))
      ·rw[hAK]
       have han:A<n:=by rw[<-hn];exact o4 A k4
       have hO:=fun (R:Res) [Tab LT R] (g:R.σ)=>lE R p n A hr omg omg (fun b hb=>by have:=lM hr hx (a:=A) omg omg hb;omega) g
       have hcd:=(lK (p:=p) (a:=A) (gP hr omg) o3).trans k2
       have hw24:=rE p A
       have hC:=fun (R:Res) [Tab LT R] (s:Nat) (hs:s<2^24) (g:R.σ)=>jU R s hs g
       refine vcR [] (lkL [(14,[4,6,7,8,9])]) (fun _=>[]) (fun (Q:AEx->St R.σ->Prop)=>Q AEx.normal (St.mk [(4,ref 1 0),(6,ref 3 0),(7,ref 4 0),(8,ref 5 0),(9,int i64 (↑A:Int))] [cells false 2 (nth [int i64 p.atoms,af p.rules]),cells false 1 fun (x:Nat)=>ow true 2 n 1,cells false (n*1) fun (a:Nat)=>int u64 (↑(hgP p a):Int),cells false 1 fun (x:Nat)=>fn 82 0 (nth []) 1 (nth [ref 1 0]),cells false 1 fun (x:Nat)=>ow true 6 m 1,cells false 1 fun (x:Nat)=>int u64 (↑left:Int),cells false (m*1) fun (a:Nat)=>fz Fz.auto 1 (List.length (ak (List.getD L a 0)).l) fun (i x:Nat)=>ac (ak (List.getD L a 0)).l i,dead] g)) (?_)
       show Wp _ _ _ 8 _ _ _ _ _
       refine vcR [] (lkL [(15,[4,6,7,8,9,10]),(16,[4,6,7,8,10,46]),(17,[4,6,7,8,10]),(18,[4,6,7,8])]) (lkL [(15,[(2,ROrc.kcall (int u64 (↑(aw p A):Int)))]),(17,[(2,ROrc.callN (fn 105 0 (nth []) 1 (nth [ref (List.length [cells false 2 (nth [int i64 p.atoms,af p.rules]),cells false 1 fun (x:Nat)=>ow true 2 n 1,cells false (n*1) fun (a:Nat)=>int u64 (↑(hgP p a):Int),cells false 1 fun (x:Nat)=>fn 82 0 (nth []) 1 (nth [ref 1 0]),cells false 1 fun (x:Nat)=>ow true 6 m 1,cells false 1 fun (x:Nat)=>int u64 (↑left:Int),cells false (m*1) fun (a:Nat)=>fz Fz.auto 1 (List.length (ak (List.getD L a 0)).l) fun (i x:Nat)=>ac (ak (List.getD L a 0)).l i,dead]) 0])) [] [cells false 1 fun (x:Nat)=>int u64 (↑(aw p A):Int)] g),(3,ROrc.callS (fz Fz.auto 1 (List.length (ak (aw p A)).l) fun (i x:Nat)=>ac (ak (aw p A)).l i) [(8,cells false 1 fun (j:Nat)=>any)] g),(5,ROrc.val (Orc.obj (aH (L++[aw p A])))),(6,ROrc.val (Orc.obj (nth [ow true 10 (m+1) 1])))]),(18,[(3,ROrc.val (Orc.obj (nth [int u64 (IntKind.wrap u64 (↑(BitVec.toNat (BitVec.ofInt 64 (↑left:Int) &&& ~~~BitVec.ofInt 64 (↑(aw p A):Int))):Int))])))])]) (fun Q=>(fun (u1:List AObj)=>(fun (u2:List AObj)=>(fun (u3:Bool)=>(fun (u4:AV)=>(fun (u5:AV)=>(fun (u6:AObj)=>(fun (u7:AObj)=>(fun (u8:AV)=>(fun (u9:AObj)=>1<=1/\(true=true/\Does Tryd.prog R 82 [int i64 (↑A:Int),ref 1 0] u1 g (ret u8) u1 g)/\Flw Tryd.prog/\1<=1/\(0<=(↑A:Int)/\(↑A:Int)<(↑n:Int))/\A+1<=n*1/\1<=1/\(u3=true->Flw Tryd.prog/\1<=1/\(true=true/\Does Tryd.prog R 77 [u8] u1 g (ret (fn 105 0 (nth []) 1 (nth [ref 8 0]))) u2 g)/\(true=true/\Does Tryd.prog R 75 [fn 105 0 (nth []) 1 (nth [ref 8 0])] u2 g (ret u5) [u9,cells false 1 fun x=>ow true 2 n 1,u7,u6,cells false 1 fun x=>ow true 6 m 1,cells false 1 fun x=>int u64 (↑left:Int),cells false (m*1) fun a=>fz Fz.auto 1 (List.length (ak (List.getD L a 0)).l) fun i x=>ac (ak (List.getD L a 0)).l i,dead,cells false 1 fun j=>any] g)/\0<1/\(m+1)*24<=aB/\m+1<=aB/\1<=1/\m*1<=m*1/\(∀(c:Nat),c<(m+1)*1->(fz Fz.auto 1 (List.length (ak (List.getD (L++[aw p A]) c 0)).l) fun i x=>ac (ak (List.getD (L++[aw p A]) c 0)).l i)=a8 1 m (fun (i j:Nat)=>fz Fz.auto 1 (List.length (ak (List.getD L (i*1+j) 0)).l) fun i_1 x=>ac (ak (List.getD L (i*1+j) 0)).l i_1) (fun (i j:Nat)=>aj (fun (j:Nat)=>fz Fz.nil 0 0 fun x x_1=>any) 0 1 (fun (x:Nat)=>u5) (0+i*1+j)) c)/\1<=1/\(∀(c:Nat),c<1->nth [ow true 10 (m+1) 1] c=aj (fun (x:Nat)=>ow true 6 m 1) 0 1 (fun (x:Nat)=>ow true 10 (m+1) 1) c)/\1<=1/\1<=1/\(∀(c:Nat),c<1->nth [u4] c=aj (fun (x:Nat)=>int u64 (↑left:Int)) 0 1 (fun (x:Nat)=>u4) c)/\Q (AEx.exit 3) (St.mk [(4,ref 1 0),(6,ref 3 0),(7,ref 4 0),(8,ref 5 0)] [u9,cells false 1 fun x=>ow true 2 n 1,u7,u6,cells false 1 (nth [ow true 10 (m+1) 1]),cells false 1 (nth [u4]),dead,dead,cells false 1 fun j=>any,cells false 1 (aj (fun (j:Nat)=>fz Fz.nil 0 0 fun x x_1=>any) 0 1 fun x=>u5),cells false ((m+1)*1) fun a=>fz Fz.auto 1 (List.length (ak (List.getD (L++[aw p A]) a 0)).l) fun i x=>ac (ak (List.getD (L++[aw p A]) a 0)).l i] g))/\(u3=false->Q AEx.normal (St.mk [(4,ref 1 0),(6,ref 3 0),(7,ref 4 0),(8,ref 5 0),(10,u8),(46,AV.bool u3)] u1 g))) (cells false 2 (nth [int i64 p.atoms,af p.rules]))) (int u64 (↑(aw p A):Int))) (cells false (n*1) fun a=>int u64 (↑(hgP p a):Int))) (cells false 1 fun x=>fn 82 0 (nth []) 1 (nth [ref 1 0]))) (fz Fz.auto 1 (List.length (ak (aw p A)).l) fun i x=>ac (ak (aw p A)).l i)) (int u64 (IntKind.wrap u64 (↑(BitVec.toNat (BitVec.ofInt 64 (↑left:Int) &&& ~~~BitVec.ofInt 64 (↑(aw p A):Int))):Int)))) (IntKind.wrap u64 (↑(BitVec.toNat (BitVec.ofInt 64 (IntKind.wrap u64 (↑(BitVec.toNat (BitVec.ofInt 64 (↑(hgP p A):Int)&&&BitVec.ofInt 64 (↑left:Int))):Int)) &&& ~~~BitVec.ofInt 64 (↑(aw p A):Int))):Int)==0)) ([cells false 2 (nth [int i64 p.atoms,af p.rules]),cells false 1 fun x=>ow true 2 n 1,cells false (n*1) fun a=>int u64 (↑(hgP p a):Int),cells false 1 fun x=>fn 82 0 (nth []) 1 (nth [ref 1 0]),cells false 1 fun x=>ow true 6 m 1,cells false 1 fun x=>int u64 (↑left:Int),cells false (m*1) fun a=>fz Fz.auto 1 (List.length (ak (List.getD L a 0)).l) fun i x=>ac (ak (List.getD L a 0)).l i,dead,cells false 1 fun x=>int u64 (↑(aw p A):Int)])) ([cells false 2 (nth [int i64 p.atoms,af p.rules]),cells false 1 fun x=>ow true 2 n 1,cells false (n*1) fun a=>int u64 (↑(hgP p a):Int),cells false 1 fun x=>fn 82 0 (nth []) 1 (nth [ref 1 0]),cells false 1 fun x=>ow true 6 m 1,cells false 1 fun x=>int u64 (↑left:Int),cells false (m*1) fun a=>fz Fz.auto 1 (List.length (ak (List.getD L a 0)).l) fun i x=>ac (ak (List.getD L a 0)).l i,dead])) ⟨omg,⟨rfl,(doT (T:=LT) [1,2] 8 (fun R _ g=>hO R g))⟩,krf,omg,omg,omg,omg,fun c1=>have c1:IntKind.wrap u64 (↑(BitVec.toNat (BitVec.ofInt 64 (IntKind.wrap u64 (↑(BitVec.toNat (BitVec.ofInt 64 (↑(hgP p A):Int)&&&BitVec.ofInt 64 (↑left:Int))):Int)) &&& ~~~BitVec.ofInt 64 (↑(aw p A):Int))):Int)=0:=(beq_iff_eq.mp c1);⟨krf,omg,⟨rfl,(cK _ _ _ _)⟩,⟨rfl,(doT (T:=LT) [8] 9 (fun R _ g=>hC R (aw p A) omg g))⟩,omg,omg,omg,omg,omg,?_,omg,(fun c hc=>match c,hc with|0,_=>krf ),omg,omg,(fun c hc=>match c,hc with|0,_=>krf ),?_⟩,fun c1=>have c1:¬IntKind.wrap u64 (↑(BitVec.toNat (BitVec.ofInt 64 (IntKind.wrap u64 (↑(BitVec.toNat (BitVec.ofInt 64 (↑(hgP p A):Int)&&&BitVec.ofInt 64 (↑left:Int))):Int)) &&& ~~~BitVec.ofInt 64 (↑(aw p A):Int))):Int)=0:=(beq_eq_false_iff_ne.mp c1);?_⟩
       ·exact fun c hc=>(lN (L:=L) (m:=m) (z:=fun _=>.fz .nil 0 0 (fun _ _=>.any)) (old:=fun i j=>aH L (i*1+j)) (by assumption) (fun i hi=>by show aH L (i*1+0)=aH L i;rw[show i*1+0=i by omega]) hc).trans krf
       ·show Cl R 0 (fy _ _) AEx.normal _
        refine(aQ (m+1,L++[aw p A],dz left (aw p A)) (toS [0,1,2,3,4,5,10] 11 (hob:=⟨⟨rfl,Nat.le_refl _,fun j hj=>match j,hj with|0,_=>(zT _)|1,_=>(zT _) ⟩,⟨rfl,Nat.le_refl _,fun j hj=>match j,hj with|0,_=>(zT _) ⟩,?_,⟨rfl,Nat.le_refl _,fun j hj=>match j,hj with|0,_=>(Le.fn (fun i hi=>absurd hi omg) (fun i hi=>match i,hi with|0,_=>(zT _) )) ⟩,⟨rfl,Nat.le_refl _,fun j hj=>match j,hj with|0,_=>(zT _) ⟩,⟨rfl,Nat.le_refl _,fun j hj=>match j,hj with|0,_=>(zU ?_) ⟩,?_,trivial⟩)) ?_ ?_)
        ·exact⟨rfl,Nat.le_refl _,fun j _=>zU rfl⟩
        ·show AV.int .u64 _=AV.int .u64 _
         rw[od o3]
        ·exact⟨rfl,Nat.le_refl _,fun j _=>zU rfl⟩
        ·exact hnx.1
        ·exact hnx.2
       ·exfalso
        rename_i c0
        exact absurd (hcd.symm.trans c0) dcd
      ·exact absurd k1 omg
    ·have hl0:left=0:=by omega
     subst hl0
     have hLo:L=co p:=by
      obtain⟨f,f1,f2⟩:=o5
      obtain⟨f,rfl⟩:∃k,f=k+1:=⟨f-1,omg⟩
      rw[<-f2]
      show L=L++(if (0:Nat)=0 then[] else _)
      rw[if_pos rfl,List.append_nil]
     subst hLo
     subst o1
     refine⟨_,z6 _,vcR [] (lkL [(19,[2,3])]) (fun _=>[]) (fun Q=>1<=1/\Q AEx.ret (St.mk [(2,ow true 6 (List.length (co p)) 1),(3,int i64 0)] [cells false 2 (nth [int i64 p.atoms,af p.rules]),cells false 1 fun x=>ow true 2 n 1,cells false (n*1) fun a=>int u64 (↑(hgP p a):Int),cells false 1 fun x=>fn 82 0 (nth []) 1 (nth [ref 1 0]),cells false 1 fun x=>ow true 6 (List.length (co p)) 1,cells false 1 fun x=>int u64 (↑0:Int),cells false (List.length (co p)*1) fun a=>fz Fz.auto 1 (List.length (ak (List.getD (co p) a 0)).l) fun i x=>ac (ak (List.getD (co p) a 0)).l i] g)) ⟨omg,?_⟩⟩
     show bq Tryd.prog R 0 _ _ _ _ .ret _
     refine eD (.tup 2 (nth [.ow true 6 (co p).length 1,.int .i64 0])) _ rfl trivial (jy 0 [(0,.tup 2 (nth [dh (co p).length (fun i=>ak ((co p).getD i 0)),.int .i64 0]))] (Nat.le_refl _) (Nat.zero_le _) (fun i hi=>absurd hi (Nat.not_lt_zero i)) ⟨aA.tup (fun j hj=>?_),trivial⟩)
     match j,hj with
     |0,_=>exact aA.le (aA.ow (o:=6) (N:=(co p).length*1) (c:=aH (co p)) (get:=aH (co p)) (fr:=false) rfl (Nat.zero_le _) (Nat.le_refl _) dcd (fun j _=>z1 (fF _ _))) (zZ rfl (fun i j hi hj=>by
       show aH (co p) (i*1+j)=_
       rw[show i*1+j=i by omega]
       rfl))
     |1,_=>exact z1 trivial
end Go.Avm.Pack
namespace Go.Avm.Pack
open Go Go.Avm Go.Proofs
open Go.IntKind (i64 u64)
open Go.Avm.AV (int bool any fz fp sl ow ref fn ifc val agg tup)
open Go.Avm.AObj (cells dead)
open Go.Avm.Oc (ret)
set_option maxRecDepth 4000
theorem lO (R:Res)(v:Nat->Int)(n:Int)(x:Int)(h:0<=n/\n<=24)(g:R.σ):Does Tryd.prog R 76 [.ref 0 2,.int .i64 n,.int .i64 x] [.cells false 27 (aI v)] g (.ret (.int .u64 (aC v x n.toNat))) [.cells false 27 (aI v)] g:=by
 obtain⟨n,rfl⟩:∃m:Nat,n=m:=⟨n.toNat,omg⟩
 rw[Int.toNat_natCast]
 refine spW (nt:=26) (rs:=[.tmp 6]) (k0:=1) ?_
 refine vcR [] (lkL [(0,[0,1,2]),(1,[0,1,2,7]),(2,[0,2,7,9,10])]) (fun _=>[]) (fun (Q:AEx->St R.σ->Prop)=>WpC Tryd.prog R 26 1 76 [1,1,0,1,0] Q [Kont.blk 0,Kont.seq [1,1,1]] (St.mk [(0,ref 0 2),(2,int i64 x),(7,int u64 0),(9,int i64 (↑n:Int)),(10,int i64 0)] [cells false 27 (aI v)] g)) (?_)
 refine(aX krf (fun (k:Nat)=>⟨[(0,ref 0 2),(2,int i64 x),(7,.int .u64 (aC v x k)),(9,int i64 (n:Int)),(10,.int .i64 k)],[cells false 27 (aI v)],g⟩) (fun (k:Nat)=>(k<=n)) (fun (k:Nat)=>(n-k)) 0 (aT ⟨zT _,zT _,(zU krf),zT _,(zU krf),trivial⟩ rfl rfl) ?_ (fun k hi=>?_))
 ·omega
 ·refine vcR [] (lkL [(3,[0,2,7,9,10,11]),(4,[0,2,7,8,9,10]),(5,[0,2,7,8,9,10,19]),(6,[0,2,7,9,10]),(7,[0,2,7,9,10])]) (lkL [(5,[(4,ROrc.kop (int i64 (v k)))]),(6,[(2,ROrc.pcall (int u64 (↑(2^k):Int)))])]) (fun Q=>(fun (u1:Int)=>(fun (u2:Int)=>(fun (u3:List AObj)=>(fun (u4:Int)=>(decide (u1<u2)=true->(0<=u1/\u1<(↑24:Int))/\OpOk Tryd.prog R (Oper.mk (some 17) (Op.load 43 (Operand.tmp 16)) 43 "table.go:67" #[Edge.mk 3 Ground.data] none) (evO [Row.mk (some 16) none (ref 0 (k+2)) false (some []) [],Row.mk (some 15) none (ref 0 2) false (some []) [],Row.mk (some 14) none (int i64 u1) false (some []) [],Row.mk (some 13) none (ref 0 2) false (some []) []] [(0,ref 0 2),(2,int i64 x),(7,int u64 u4),(8,int i64 u1),(9,int i64 u2),(10,int i64 u1)] []) u3 g (int i64 (v k)) u3 g/\((v k==x)=true->(∀(hp:List AObj) (g:R.σ),true=true/\Does Tryd.prog R 79 [int i64 u1] hp g (ret (int u64 (↑(2^k):Int))) hp g)/\(-9223372036854775808<=u1+1/\u1+1<=9223372036854775807)/\Q AEx.normal (St.mk [(0,ref 0 2),(2,int i64 x),(7,int u64 (IntKind.wrap u64 (↑(BitVec.toNat (BitVec.ofInt 64 u4|||BitVec.ofInt 64 (↑(2^k):Int))):Int))),(9,int i64 u2),(10,int i64 (u1+1))] u3 g))/\((v k==x)=false->(-9223372036854775808<=u1+1/\u1+1<=9223372036854775807)/\Q AEx.normal (St.mk [(0,ref 0 2),(2,int i64 x),(7,int u64 u4),(9,int i64 u2),(10,int i64 (u1+1))] u3 g)))/\(decide (u1<u2)=false->Q (AEx.exit 0) (St.mk [(0,ref 0 2),(2,int i64 x),(7,int u64 u4),(9,int i64 u2),(10,int i64 u1),(11,AV.bool (decide (u1<u2)))] u3 g))) ((↑(aC v x k):Int))) ([cells false 27 (aI v)])) ((↑n:Int))) ((↑k:Int))) ⟨fun c1=>have c1:(↑k:Int)<(↑n:Int):=(of_decide_eq_true c1);⟨omg,?_,fun c2=>have c2:v k=x:=(beq_iff_eq.mp c2);⟨(fun _ _=>⟨rfl,(gG _ _ omg _ _)⟩),omg,?_⟩,fun c2=>have c2:¬v k=x:=(beq_eq_false_iff_ne.mp c2);⟨omg,?_⟩⟩,fun c1=>have c1:¬(↑k:Int)<(↑n:Int):=(of_decide_eq_false c1);?_⟩
  ·exact dS rfl rfl krf rfl (by show _+1<=27;omega) (nY omg omg)
  ·refine(aQ (k+1) (aT ⟨zT _,zT _,(zU ?_),zT _,(zU krf),trivial⟩ rfl rfl) ?_ ?_)
   ·show AV.int .u64 _=AV.int .u64 _
    congr 1
    rw[iy,if_pos c2]
    exact Tb.u64_or (bz (Nat.lt_of_lt_of_le (lj v x k) (Nat.pow_le_pow_right dcd omg))) (bz (Nat.pow_lt_pow_right dcd omg))
   ·omega
   ·omega
  ·refine(aQ (k+1) (aT ⟨zT _,zT _,(zU ?_),zT _,(zU krf),trivial⟩ rfl rfl) ?_ ?_)
   ·show AV.int .u64 _=AV.int .u64 _
    rw[iy,if_neg c2]
   ·omega
   ·omega
  ·have hk:k=n:=by omega
   subst hk
   refine⟨_,z6 _,vcR [] (lkL [(8,[6])]) (fun _=>[]) (fun (Q:AEx->St R.σ->Prop)=>Q AEx.ret (St.mk [(6,int u64 (↑(aC v x k):Int))] [cells false 27 (aI v)] g)) (?_)⟩
   refine(aq (aU _ _ rfl trivial rfl rfl rfl) (zT _))
def stF (p:Prg)(most:Nat):List Int->Nat->List Nat->List Nat
 |[],s,out=>if out.length=most then out else if fol p.rules.l s=s then out++[s] else out
 |a::r,s,out=>if out.length=most then out else stF p most r (s|||2^a.toNat) (stF p most r s out)
theorem eK {p:Prg}{most:Nat}:∀{r:List Int} {s:Nat} {out:List Nat},out.length<=most->out.length<=(stF p most r s out).length/\(stF p most r s out).length<=most/\((stF p most r s out).length=out.length->stF p most r s out=out)
 |[],s,out,h=>by
  show out.length<=(if out.length=most then out else if fol p.rules.l s=s then out++[s] else out).length/\_
  show _/\(if out.length=most then out else if fol p.rules.l s=s then out++[s] else out).length<=most/\((if out.length=most then out else if fol p.rules.l s=s then out++[s] else out).length=out.length->(if out.length=most then out else if fol p.rules.l s=s then out++[s] else out)=out)
  split
  ·exact⟨Nat.le_refl _,h,fun _=>rfl⟩
  ·split
   ·rw[List.length_append,List.length_singleton]
    exact⟨omg,omg,fun h=>omg⟩
   ·exact⟨Nat.le_refl _,h,fun _=>rfl⟩
 |a::r,s,out,h=>by
  obtain⟨a1,a2,a3⟩:=eK (p:=p) (most:=most) (r:=r) (s:=s) (out:=out) h
  obtain⟨b1,b2,b3⟩:=eK (p:=p) (most:=most) (r:=r) (s:=s|||2^a.toNat) (out:=stF p most r s out) a2
  show out.length<=(if out.length=most then out else stF p most r (s|||2^a.toNat) (stF p most r s out)).length/\(if out.length=most then out else stF p most r (s|||2^a.toNat) (stF p most r s out)).length<=most/\((if out.length=most then out else stF p most r (s|||2^a.toNat) (stF p most r s out)).length=out.length->(if out.length=most then out else stF p most r (s|||2^a.toNat) (stF p most r s out))=out)
  split
  ·exact⟨Nat.le_refl _,h,fun _=>rfl⟩
  ·exact⟨omg,b2,fun h=>by
    have h1:=a3 omg
    rw[h1] at b3 b1 h ⊢
    exact b3 h⟩
theorem yV {p:Prg}{most:Nat}{r:List Int}{s:Nat}{out:List Nat}(h:out.length<=most)(h0:out≠[]):stF p most r s out≠[]:=fun e=>by
 have:=(eK (p:=p) (r:=r) (s:=s) h).1
 rw[e] at this
 exact h0 (List.length_eq_zero_iff.1 (Nat.le_zero.1 this))
structure FromC (p:Prg)(most:Nat)(O:KL Int)(r:List Int)(k:Int):Prop where
 nn:∀(R:Res) [Tab LT R] (s:Nat) (g:R.σ),s<2^24->stF p most r s []=[]->Does Tryd.prog R 78 [.int .i64 k,.int .u64 s,.ref 0 0,.ref 1 0,.ref 2 0,.ref 3 0,.ref 4 0] [.cells false 1 (fun _=>.fz .nil 0 0 (fun _ _=>.any)),.cells false 1 (fun _=>.int .i64 most),.cells false 1 (fun _=>ah O),.cells false 1 (fun _=>.fn 78 0 (nth []) 5 (nth [.ref 0 0,.ref 1 0,.ref 2 0,.ref 3 0,.ref 4 0])),.cells false 2 (nth [.int .i64 p.atoms,af p.rules])] g (.ret (.tup 0 (nth []))) [.cells false 1 (fun _=>.fz .nil 0 0 (fun _ _=>.any)),.cells false 1 (fun _=>.int .i64 most),.cells false 1 (fun _=>ah O),.cells false 1 (fun _=>.fn 78 0 (nth []) 5 (nth [.ref 0 0,.ref 1 0,.ref 2 0,.ref 3 0,.ref 4 0])),.cells false 2 (nth [.int .i64 p.atoms,af p.rules])] g
 nw:∀(R:Res) [Tab LT R] (s m:Nat) (L:List Nat) (g:R.σ),s<2^24->stF p most r s []=L->L≠[]->m=L.length->Does Tryd.prog R 78 [.int .i64 k,.int .u64 s,.ref 0 0,.ref 1 0,.ref 2 0,.ref 3 0,.ref 4 0] [.cells false 1 (fun _=>.fz .nil 0 0 (fun _ _=>.any)),.cells false 1 (fun _=>.int .i64 most),.cells false 1 (fun _=>ah O),.cells false 1 (fun _=>.fn 78 0 (nth []) 5 (nth [.ref 0 0,.ref 1 0,.ref 2 0,.ref 3 0,.ref 4 0])),.cells false 2 (nth [.int .i64 p.atoms,af p.rules])] g (.ret (.tup 0 (nth []))) [.cells false 1 (fun _=>.ow true 5 m 1),.cells false 1 (fun _=>.int .i64 most),.cells false 1 (fun _=>ah O),.cells false 1 (fun _=>.fn 78 0 (nth []) 5 (nth [.ref 0 0,.ref 1 0,.ref 2 0,.ref 3 0,.ref 4 0])),.cells false 2 (nth [.int .i64 p.atoms,af p.rules]),.cells false (m*1) (aH L)] g
 on:∀(R:Res) [Tab LT R] (s m:Nat) (L:List Nat) (g:R.σ),s<2^24->L≠[]->m=L.length->m<=most->stF p most r s L=L->Does Tryd.prog R 78 [.int .i64 k,.int .u64 s,.ref 0 0,.ref 1 0,.ref 2 0,.ref 3 0,.ref 4 0] [.cells false 1 (fun _=>.ow true 5 m 1),.cells false 1 (fun _=>.int .i64 most),.cells false 1 (fun _=>ah O),.cells false 1 (fun _=>.fn 78 0 (nth []) 5 (nth [.ref 0 0,.ref 1 0,.ref 2 0,.ref 3 0,.ref 4 0])),.cells false 2 (nth [.int .i64 p.atoms,af p.rules]),.cells false (m*1) (aH L)] g (.ret (.tup 0 (nth []))) [.cells false 1 (fun _=>.ow true 5 m 1),.cells false 1 (fun _=>.int .i64 most),.cells false 1 (fun _=>ah O),.cells false 1 (fun _=>.fn 78 0 (nth []) 5 (nth [.ref 0 0,.ref 1 0,.ref 2 0,.ref 3 0,.ref 4 0])),.cells false 2 (nth [.int .i64 p.atoms,af p.rules]),.cells false (m*1) (aH L)] g
 ow:∀(R:Res) [Tab LT R] (s m m':Nat) (L L':List Nat) (g:R.σ),s<2^24->L≠[]->m=L.length->m<=most->stF p most r s L=L'->m'=L'.length->m≠m'->Does Tryd.prog R 78 [.int .i64 k,.int .u64 s,.ref 0 0,.ref 1 0,.ref 2 0,.ref 3 0,.ref 4 0] [.cells false 1 (fun _=>.ow true 5 m 1),.cells false 1 (fun _=>.int .i64 most),.cells false 1 (fun _=>ah O),.cells false 1 (fun _=>.fn 78 0 (nth []) 5 (nth [.ref 0 0,.ref 1 0,.ref 2 0,.ref 3 0,.ref 4 0])),.cells false 2 (nth [.int .i64 p.atoms,af p.rules]),.cells false (m*1) (aH L)] g (.ret (.tup 0 (nth []))) [.cells false 1 (fun _=>.ow true 6 m' 1),.cells false 1 (fun _=>.int .i64 most),.cells false 1 (fun _=>ah O),.cells false 1 (fun _=>.fn 78 0 (nth []) 5 (nth [.ref 0 0,.ref 1 0,.ref 2 0,.ref 3 0,.ref 4 0])),.cells false 2 (nth [.int .i64 p.atoms,af p.rules]),.dead,.cells false (m'*1) (aH L')] g
theorem lP {P:Program}{R:Res}{k0:Nat}{rs:List ResultVar}{x:AV}{hp':List AObj}{g':R.σ}{s:St R.σ}(v:AV)(ob:List Prop)(h:ec (ay P) s rs=some (v,ob))(hob:ap ob)(ht:To R k0 ⟨[(0,v)],s.hp,s.g⟩ ⟨[(0,x)],hp',g'⟩):bq P R k0 rs (.ret x) hp' g' .normal s:=
 ⟨v,ob,x,_,h,hob,rfl,ht,rfl,rfl,rfl⟩
theorem lQ {f:Nat->Nat}{g:FuncId}(h0:f 0=0:=by rfl)(h1:f 1=1:=by rfl)(h2:f 2=2:=by rfl)(h3:f 3=3:=by rfl)(h4:f 4=4:=by rfl):Le (.fn g 0 (nth []) 5 (nth [.ref 0 0,.ref 1 0,.ref 2 0,.ref 3 0,.ref 4 0])) (aF f (.fn g 0 (nth []) 5 (nth [.ref 0 0,.ref 1 0,.ref 2 0,.ref 3 0,.ref 4 0]))):=
 Le.fn (fun i hi=>absurd hi (Nat.not_lt_zero i)) (fun i hi=>match i,hi with
  |0,_=>zU (by show AV.ref 0 0=.ref (f 0) 0;rw[h0])
  |1,_=>zU (by show AV.ref 1 0=.ref (f 1) 0;rw[h1])
  |2,_=>zU (by show AV.ref 2 0=.ref (f 2) 0;rw[h2])
  |3,_=>zU (by show AV.ref 3 0=.ref (f 3) 0;rw[h3])
  |4,_=>zU (by show AV.ref 4 0=.ref (f 4) 0;rw[h4]))
theorem yW {p:Prg}{most:Nat}{O:KL Int}(hm:1<=most/\most<=100)(hO:O.l.length<=10)(hl:p.rules.l.length<1000000)(hr:∀r,r∈p.rules.l->aK r):FromC p most O [] O.l.length:=by
 have hroom:aB=140737488355328:=rfl
 have hb:decide ((O.l.length:Int)<(O.l.length:Int))=false:=decide_eq_false omg
 have hz:(((0:Nat):Int)==(most:Int))=false:=by rw[beq_eq_false_iff_ne];omega
 have e0:∀s L,stF p most [] s L=if L.length=most then L else if fol p.rules.l s=s then L++[s] else L:=fun s L=>rfl
 have hC:=fun (R:Res) [Tab LT R] (s:Nat) (hs:s<2^24) (g:R.σ)=>jU R s hs g
 constructor
 ·intro R _ s g hs h
  rw[e0,if_neg (by show ¬0=most;omega)] at h
  have hf:((fol p.rules.l s:Int)==(s:Int))=false:=by
   rw[beq_eq_false_iff_ne]
   intro e
   rw[if_pos omg] at h
   cases h
  refine spW (nt:=47) (rs:=[]) (k0:=5) ?_
  refine vcR [[0,1,0],[0,1,1,1,0],[0,1,1,1,1,1,0]] (lkL [(0,[0,1,2,4,5,6,9]),(1,[0,1,2,4,5,6,14]),(4,[1,2,35])]) (lkL [(4,[(2,ROrc.pcall (int u64 (↑(fol p.rules.l s):Int)))])]) (fun Q=>(fun (u1:List AObj)=>(fun (u2:Int)=>(fun (u3:Bool)=>(fun (u4:AEx->St R.σ->Prop)=>(fun (u5:AV)=>(fun (u6:Bool)=>1<=1/\1<=1/\(u6=true->Wp Tryd.prog R 47 5 Rd.top (ax Tryd.prog 78) [0,1,0] u4 (St.mk [(0,int i64 u2),(1,u5),(2,ref 0 0),(4,ref 2 0),(5,ref 3 0),(6,ref 4 0),(9,AV.bool u6)] u1 g))/\(u6=false->1<=1/\(decide (u2<u2)=true->Wp Tryd.prog R 47 5 Rd.top (ax Tryd.prog 78) [0,1,1,1,0] u4 (St.mk [(0,int i64 u2),(1,u5),(2,ref 0 0),(4,ref 2 0),(5,ref 3 0),(6,ref 4 0),(14,AV.bool (decide (u2<u2)))] u1 g))/\(decide (u2<u2)=false->2<=2/\(∀(hp:List AObj) (g:R.σ),true=true/\Does Tryd.prog R 80 [av p,u5] hp g (ret (int u64 (↑(fol p.rules.l s):Int))) hp g)/\(u3=true->Wp Tryd.prog R 47 5 Rd.top (ax Tryd.prog 78) [0,1,1,1,1,1,0] u4 (St.mk [(1,u5),(2,ref 0 0),(35,AV.bool u3)] u1 g))/\(u3=false->Q AEx.normal (St.mk [(1,u5),(2,ref 0 0),(35,AV.bool u3)] u1 g))))) ((↑0:Int)==(↑most:Int))) (int u64 (↑s:Int))) (aP Tryd.prog R 47 5 Rd.top (ax Tryd.prog 78) Q [Kont.blk 0])) ((↑(fol p.rules.l s):Int)==(↑s:Int))) ((↑(List.length O.l):Int))) ([cells false 1 fun x=>fz Fz.nil 0 0 fun x x_1=>any,cells false 1 fun x=>int i64 (↑most:Int),cells false 1 fun x=>fz O.2 1 (List.length O.l) fun i x=>ac O.l i,cells false 1 fun x=>fn 78 0 (nth []) 5 (nth [ref 0 0,ref 1 0,ref 2 0,ref 3 0,ref 4 0]),cells false 2 (nth [int i64 p.atoms,af p.rules])])) ⟨omg,omg,fun hcc=>(nomatch (hz.symm.trans hcc)),fun _=>⟨omg,fun hcc=>(nomatch (hb.symm.trans hcc)),fun _=>⟨omg,(fun _ _=>⟨rfl,(ll _ _ _ _ omg omg omg _)⟩),fun hcc=>(nomatch (hf.symm.trans hcc)),fun _=>?_⟩⟩⟩
  refine(aq (aU _ _ rfl trivial rfl rfl rfl) (zT _))
 ·intro R _ s m L g hs h hL hmL
  rw[e0,if_neg (by show ¬0=most;omega)] at h
  have hf:((fol p.rules.l s:Int)==(s:Int))=true:=by
   rw[beq_iff_eq]
   by_cases e:fol p.rules.l s=s
   ·omega
   ·rw[if_neg e] at h
    exact absurd h.symm hL
  rw[if_pos (by rw[beq_iff_eq] at hf;omega)] at h
  subst h
  subst hmL
  refine spW (nt:=47) (rs:=[]) (k0:=5) ?_
  refine vcR [[0,1,0],[0,1,1,1,0],[0,1,1,1,1,1,1]] (lkL [(0,[0,1,2,4,5,6,9]),(1,[0,1,2,4,5,6,14]),(4,[1,2,35])]) (lkL [(4,[(2,ROrc.pcall (int u64 (↑(fol p.rules.l s):Int)))]),(5,[(2,ROrc.callN (fn 105 0 (nth []) 1 (nth [ref (List.length [cells false 1 fun (x:Nat)=>fz Fz.nil 0 0 fun (x x_1:Nat)=>any,cells false 1 fun (x:Nat)=>int i64 (↑most:Int),cells false 1 fun (x:Nat)=>fz O.2 1 (List.length O.l) fun (i x:Nat)=>ac O.l i,cells false 1 fun (x:Nat)=>fn 78 0 (nth []) 5 (nth [ref 0 0,ref 1 0,ref 2 0,ref 3 0,ref 4 0]),cells false 2 (nth [int i64 p.atoms,af p.rules])]) 0])) [] [cells false 1 fun (x:Nat)=>int u64 (↑s:Int)] g),(3,ROrc.callS (fz Fz.auto 1 (List.length (ak s).l) fun (i x:Nat)=>ac (ak s).l i) [(5,cells false 1 fun (j:Nat)=>any)] g),(5,ROrc.val (Orc.obj (aH ([]++[s])))),(6,ROrc.val (Orc.obj (nth [ow true 7 1 1])))])]) (fun Q=>(fun (u1:List AObj)=>(fun (u2:List AObj)=>(fun (u3:Int)=>(fun (u4:AV)=>(fun (u5:AV)=>(fun (u6:AEx->St R.σ->Prop)=>(fun (u7:AObj)=>(fun (u8:AObj)=>(fun (u9:Bool)=>(fun (u10:AV)=>(fun (u11:Bool)=>(fun (u12:AObj)=>(fun (u13:AObj)=>1<=1/\1<=1/\(u11=true->Wp Tryd.prog R 47 5 Rd.top (ax Tryd.prog 78) [0,1,0] u6 (St.mk [(0,int i64 u3),(1,u10),(2,ref 0 0),(4,ref 2 0),(5,ref 3 0),(6,ref 4 0),(9,AV.bool u11)] u1 g))/\(u11=false->1<=1/\(decide (u3<u3)=true->Wp Tryd.prog R 47 5 Rd.top (ax Tryd.prog 78) [0,1,1,1,0] u6 (St.mk [(0,int i64 u3),(1,u10),(2,ref 0 0),(4,ref 2 0),(5,ref 3 0),(6,ref 4 0),(14,AV.bool (decide (u3<u3)))] u1 g))/\(decide (u3<u3)=false->2<=2/\(∀(hp:List AObj) (g:R.σ),true=true/\Does Tryd.prog R 80 [av p,u10] hp g (ret (int u64 (↑(fol p.rules.l s):Int))) hp g)/\(u9=true->Flw Tryd.prog/\1<=1/\(true=true/\Does Tryd.prog R 77 [u10] u1 g (ret (fn 105 0 (nth []) 1 (nth [ref 5 0]))) u2 g)/\(true=true/\Does Tryd.prog R 75 [fn 105 0 (nth []) 1 (nth [ref 5 0])] u2 g (ret u4) [cells false 1 fun x=>u5,u13,u8,u7,u12,cells false 1 fun j=>any] g)/\0<1/\24<=aB/\1<=aB/\1<=1/\(∀(c:Nat),c<1->(fz Fz.auto 1 (List.length (ak (List.getD ([]++[s]) c 0)).l) fun i x=>ac (ak (List.getD ([]++[s]) c 0)).l i)=a8 1 0 (fun (x x_1:Nat)=>any) (fun (i j:Nat)=>aj (fun (j:Nat)=>u5) 0 1 (fun (x:Nat)=>u4) (0+i*1+j)) c)/\1<=1/\(∀(c:Nat),c<1->nth [ow true 7 1 1] c=aj (fun (x:Nat)=>u5) 0 1 (fun (x:Nat)=>ow true 7 1 1) c)/\Q AEx.normal (St.mk [] [cells false 1 (nth [ow true 7 1 1]),u13,u8,u7,u12,cells false 1 fun j=>any,cells false 1 (aj (fun (j:Nat)=>u5) 0 1 fun x=>u4),cells false 1 fun a=>fz Fz.auto 1 (List.length (ak (List.getD ([]++[s]) a 0)).l) fun i x=>ac (ak (List.getD ([]++[s]) a 0)).l i] g))/\(u9=false->Wp Tryd.prog R 47 5 Rd.top (ax Tryd.prog 78) [0,1,1,1,1,1,1] u6 (St.mk [(1,u10),(2,ref 0 0),(35,AV.bool u9)] u1 g))))) (cells false 1 fun x=>int i64 (↑most:Int))) (cells false 2 (nth [int i64 p.atoms,af p.rules]))) ((↑0:Int)==(↑most:Int))) (int u64 (↑s:Int))) ((↑(fol p.rules.l s):Int)==(↑s:Int))) (cells false 1 fun x=>fz O.2 1 (List.length O.l) fun i x=>ac O.l i)) (cells false 1 fun x=>fn 78 0 (nth []) 5 (nth [ref 0 0,ref 1 0,ref 2 0,ref 3 0,ref 4 0]))) (aP Tryd.prog R 47 5 Rd.top (ax Tryd.prog 78) Q [Kont.blk 0])) (fz Fz.nil 0 0 fun x x_1=>any)) (fz Fz.auto 1 (List.length (ak s).l) fun i x=>ac (ak s).l i)) ((↑(List.length O.l):Int))) ([cells false 1 fun x=>fz Fz.nil 0 0 fun x x_1=>any,cells false 1 fun x=>int i64 (↑most:Int),cells false 1 fun x=>fz O.2 1 (List.length O.l) fun i x=>ac O.l i,cells false 1 fun x=>fn 78 0 (nth []) 5 (nth [ref 0 0,ref 1 0,ref 2 0,ref 3 0,ref 4 0]),cells false 2 (nth [int i64 p.atoms,af p.rules]),cells false 1 fun x=>int u64 (↑s:Int)])) ([cells false 1 fun x=>fz Fz.nil 0 0 fun x x_1=>any,cells false 1 fun x=>int i64 (↑most:Int),cells false 1 fun x=>fz O.2 1 (List.length O.l) fun i x=>ac O.l i,cells false 1 fun x=>fn 78 0 (nth []) 5 (nth [ref 0 0,ref 1 0,ref 2 0,ref 3 0,ref 4 0]),cells false 2 (nth [int i64 p.atoms,af p.rules])])) ⟨omg,omg,fun hcc=>(nomatch (hz.symm.trans hcc)),fun _=>⟨omg,fun hcc=>(nomatch (hb.symm.trans hcc)),fun _=>⟨omg,(fun _ _=>⟨rfl,(ll _ _ _ _ omg omg omg _)⟩),fun _=>⟨krf,omg,⟨rfl,(cK _ _ _ _)⟩,⟨rfl,(doT (T:=LT) [5] 6 (fun R _ g=>hC R (s) omg g))⟩,omg,omg,omg,omg,?_,omg,(fun c hc=>match c,hc with|0,_=>krf ),?_⟩,fun hcc=>(nomatch (hf.symm.trans hcc))⟩⟩⟩
  ·exact fun c hc=>(lN (L:=[]) (m:=0) (z:=fun _=>.fz .nil 0 0 (fun _ _=>.any)) (old:=fun _ _=>.any) rfl (fun i hi=>absurd hi (Nat.not_lt_zero i)) hc).trans krf
  ·refine lP (.tup 0 (nth [])) _ rfl trivial ?_
   refine ed [0,1,2,3,4,7] 8 ?_ ?_ ?_ ?_ ?_ ?_ ?_
   ·rfl
   ·rfl
   ·rfl
   ·rfl
   ·rfl
   ·exact⟨zT _,trivial⟩
   ·exact⟨⟨rfl,Nat.le_refl _,fun j hj=>match j,hj with|0,_=>zT _⟩,zW _,zW _,⟨rfl,Nat.le_refl _,fun j hj=>lQ⟩,⟨rfl,Nat.le_refl _,fun j hj=>match j,hj with|0,_=>zT _|1,_=>bk (by exact trivial)⟩,⟨rfl,Nat.le_refl _,fun j hj=>zT _⟩,trivial⟩
 ·intro R _ s m L g hs hL hmL hmm h
  rw[e0] at h
  refine spW (nt:=47) (rs:=[]) (k0:=6) ?_
  refine vcR [[0,1,1,1,0]] (lkL [(0,[0,1,2,4,5,6,9]),(1,[0,1,2,4,5,6,14]),(4,[1,2,35])]) (lkL [(4,[(2,ROrc.pcall (int u64 (↑(fol p.rules.l s):Int)))]),(5,[(2,ROrc.callN (fn 105 0 (nth []) 1 (nth [ref (List.length [cells false 1 fun (x:Nat)=>ow true 5 m 1,cells false 1 fun (x:Nat)=>int i64 (↑most:Int),cells false 1 fun (x:Nat)=>fz O.2 1 (List.length O.l) fun (i x:Nat)=>ac O.l i,cells false 1 fun (x:Nat)=>fn 78 0 (nth []) 5 (nth [ref 0 0,ref 1 0,ref 2 0,ref 3 0,ref 4 0]),cells false 2 (nth [int i64 p.atoms,af p.rules]),cells false (m*1) fun (a:Nat)=>fz Fz.auto 1 (List.length (ak (List.getD L a 0)).l) fun (i x:Nat)=>ac (ak (List.getD L a 0)).l i]) 0])) [] [cells false 1 fun (x:Nat)=>int u64 (↑s:Int)] g),(3,ROrc.callS (fz Fz.auto 1 (List.length (ak s).l) fun (i x:Nat)=>ac (ak s).l i) [(6,cells false 1 fun (j:Nat)=>any)] g),(6,ROrc.val (Orc.obj (nth [ow true 8 (m+1) 1])))])]) (fun Q=>(fun (u1:List AObj)=>(fun (u2:List AObj)=>(fun (u3:Int)=>(fun (u4:AV)=>(fun (u5:AObj)=>(fun (u6:AObj)=>(fun (u7:Bool)=>(fun (u8:AV)=>(fun (u9:Bool)=>(fun (u10:AObj)=>(fun (u11:AObj)=>1<=1/\1<=1/\(u9=true->Q AEx.normal (St.mk [(0,int i64 u3),(1,u8),(2,ref 0 0),(4,ref 2 0),(5,ref 3 0),(6,ref 4 0),(9,AV.bool u9)] u1 g))/\(u9=false->1<=1/\(decide (u3<u3)=true->WpC Tryd.prog R 47 6 78 [0,1,1,1,0] Q [Kont.blk 0] (St.mk [(0,int i64 u3),(1,u8),(2,ref 0 0),(4,ref 2 0),(5,ref 3 0),(6,ref 4 0),(14,AV.bool (decide (u3<u3)))] u1 g))/\(decide (u3<u3)=false->2<=2/\(∀(hp:List AObj) (g:R.σ),true=true/\Does Tryd.prog R 80 [av p,u8] hp g (ret (int u64 (↑(fol p.rules.l s):Int))) hp g)/\(u7=true->Flw Tryd.prog/\1<=1/\(true=true/\Does Tryd.prog R 77 [u8] u1 g (ret (fn 105 0 (nth []) 1 (nth [ref 6 0]))) u2 g)/\(true=true/\Does Tryd.prog R 75 [fn 105 0 (nth []) 1 (nth [ref 6 0])] u2 g (ret u4) [cells false 1 fun x=>ow true 5 m 1,u11,u6,u5,u10,cells false (m*1) fun a=>fz Fz.auto 1 (List.length (ak (List.getD L a 0)).l) fun i x=>ac (ak (List.getD L a 0)).l i,cells false 1 fun j=>any] g)/\0<1/\(m+1)*24<=aB/\m+1<=aB/\1<=1/\m*1<=m*1/\1<=1/\(∀(c:Nat),c<1->nth [ow true 8 (m+1) 1] c=aj (fun (x:Nat)=>ow true 5 m 1) 0 1 (fun (x:Nat)=>ow true 8 (m+1) 1) c)/\Q AEx.normal (St.mk [] [cells false 1 (nth [ow true 8 (m+1) 1]),u11,u6,u5,u10,dead,cells false 1 fun j=>any,cells false 1 (aj (fun (j:Nat)=>fz Fz.nil 0 0 fun x x_1=>any) 0 1 fun x=>u4),cells false ((m+1)*1) (a8 1 m (fun (i j:Nat)=>fz Fz.auto 1 (List.length (ak (List.getD L (i*1+j) 0)).l) fun i_1 x=>ac (ak (List.getD L (i*1+j) 0)).l i_1) fun i j=>aj (fun (j:Nat)=>fz Fz.nil 0 0 fun x x_1=>any) 0 1 (fun (x:Nat)=>u4) (0+i*1+j))] g))/\(u7=false->Q AEx.normal (St.mk [(1,u8),(2,ref 0 0),(35,AV.bool u7)] u1 g))))) (cells false 1 fun x=>int i64 (↑most:Int))) (cells false 2 (nth [int i64 p.atoms,af p.rules]))) ((↑m:Int)==(↑most:Int))) (int u64 (↑s:Int))) ((↑(fol p.rules.l s):Int)==(↑s:Int))) (cells false 1 fun x=>fz O.2 1 (List.length O.l) fun i x=>ac O.l i)) (cells false 1 fun x=>fn 78 0 (nth []) 5 (nth [ref 0 0,ref 1 0,ref 2 0,ref 3 0,ref 4 0]))) (fz Fz.auto 1 (List.length (ak s).l) fun i x=>ac (ak s).l i)) ((↑(List.length O.l):Int))) ([cells false 1 fun x=>ow true 5 m 1,cells false 1 fun x=>int i64 (↑most:Int),cells false 1 fun x=>fz O.2 1 (List.length O.l) fun i x=>ac O.l i,cells false 1 fun x=>fn 78 0 (nth []) 5 (nth [ref 0 0,ref 1 0,ref 2 0,ref 3 0,ref 4 0]),cells false 2 (nth [int i64 p.atoms,af p.rules]),cells false (m*1) fun a=>fz Fz.auto 1 (List.length (ak (List.getD L a 0)).l) fun i x=>ac (ak (List.getD L a 0)).l i,cells false 1 fun x=>int u64 (↑s:Int)])) ([cells false 1 fun x=>ow true 5 m 1,cells false 1 fun x=>int i64 (↑most:Int),cells false 1 fun x=>fz O.2 1 (List.length O.l) fun i x=>ac O.l i,cells false 1 fun x=>fn 78 0 (nth []) 5 (nth [ref 0 0,ref 1 0,ref 2 0,ref 3 0,ref 4 0]),cells false 2 (nth [int i64 p.atoms,af p.rules]),cells false (m*1) fun a=>fz Fz.auto 1 (List.length (ak (List.getD L a 0)).l) fun i x=>ac (ak (List.getD L a 0)).l i])) ⟨omg,omg,fun c1=>have c1:(↑m:Int)=(↑most:Int):=(beq_iff_eq.mp c1);?_,fun c1=>have c1:¬(↑m:Int)=(↑most:Int):=(beq_eq_false_iff_ne.mp c1);⟨omg,fun hcc=>(nomatch (hb.symm.trans hcc)),fun _=>⟨omg,(fun _ _=>⟨rfl,(ll _ _ _ _ omg omg omg _)⟩),fun c2=>have c2:(↑(fol p.rules.l s):Int)=(↑s:Int):=(beq_iff_eq.mp c2);⟨krf,omg,⟨rfl,(cK _ _ _ _)⟩,⟨rfl,(doT (T:=LT) [6] 7 (fun R _ g=>hC R (s) omg g))⟩,omg,omg,omg,omg,omg,omg,(fun c hc=>match c,hc with|0,_=>krf ),?_⟩,fun c2=>have c2:¬(↑(fol p.rules.l s):Int)=(↑s:Int):=(beq_eq_false_iff_ne.mp c2);?_⟩⟩⟩
  ·refine(aq (aU _ _ rfl trivial rfl rfl rfl) (zT _))
  ·exfalso
   rw[if_neg omg,if_pos omg] at h
   have:=congrArg List.length h
   rw[List.length_append,List.length_singleton] at this
   omega
  ·refine(aq (aU _ _ rfl trivial rfl rfl rfl) (zT _))
 ·intro R _ s m m' L L' g hs hL hmL hmm h hm' hne
  rw[e0] at h
  have hf:((fol p.rules.l s:Int)==(s:Int))=true:=by
   rw[beq_iff_eq]
   by_cases e:fol p.rules.l s=s
   ·omega
   ·rw[if_neg e,ite_self] at h
    subst h
    omega
  have h1:¬L.length=most:=fun e=>by
   rw[if_pos e] at h
   subst h
   omega
  rw[if_neg h1,if_pos (by rw[beq_iff_eq] at hf;omega)] at h
  subst h
  have hmm1:m'=m+1:=by rw[hm',List.length_append,hmL];rfl
  subst hmm1
  have hz:((m:Int)==(most:Int))=false:=by rw[beq_eq_false_iff_ne];omega
  refine spW (nt:=47) (rs:=[]) (k0:=6) ?_
  refine vcR [[0,1,0],[0,1,1,1,0],[0,1,1,1,1,1,1]] (lkL [(0,[0,1,2,4,5,6,9]),(1,[0,1,2,4,5,6,14]),(4,[1,2,35])]) (lkL [(4,[(2,ROrc.pcall (int u64 (↑(fol p.rules.l s):Int)))]),(5,[(2,ROrc.callN (fn 105 0 (nth []) 1 (nth [ref (List.length [cells false 1 fun (x:Nat)=>ow true 5 m 1,cells false 1 fun (x:Nat)=>int i64 (↑most:Int),cells false 1 fun (x:Nat)=>fz O.2 1 (List.length O.l) fun (i x:Nat)=>ac O.l i,cells false 1 fun (x:Nat)=>fn 78 0 (nth []) 5 (nth [ref 0 0,ref 1 0,ref 2 0,ref 3 0,ref 4 0]),cells false 2 (nth [int i64 p.atoms,af p.rules]),cells false (m*1) fun (a:Nat)=>fz Fz.auto 1 (List.length (ak (List.getD L a 0)).l) fun (i x:Nat)=>ac (ak (List.getD L a 0)).l i]) 0])) [] [cells false 1 fun (x:Nat)=>int u64 (↑s:Int)] g),(3,ROrc.callS (fz Fz.auto 1 (List.length (ak s).l) fun (i x:Nat)=>ac (ak s).l i) [(6,cells false 1 fun (j:Nat)=>any)] g),(5,ROrc.val (Orc.obj (aH (L++[s])))),(6,ROrc.val (Orc.obj (nth [ow true 8 (m+1) 1])))])]) (fun Q=>(fun (u1:List AObj)=>(fun (u2:List AObj)=>(fun (u3:Int)=>(fun (u4:AV)=>(fun (u5:AEx->St R.σ->Prop)=>(fun (u6:AObj)=>(fun (u7:AObj)=>(fun (u8:Bool)=>(fun (u9:AV)=>(fun (u10:Bool)=>(fun (u11:AObj)=>(fun (u12:AObj)=>1<=1/\1<=1/\(u10=true->Wp Tryd.prog R 47 6 Rd.top (ax Tryd.prog 78) [0,1,0] u5 (St.mk [(0,int i64 u3),(1,u9),(2,ref 0 0),(4,ref 2 0),(5,ref 3 0),(6,ref 4 0),(9,AV.bool u10)] u1 g))/\(u10=false->1<=1/\(decide (u3<u3)=true->Wp Tryd.prog R 47 6 Rd.top (ax Tryd.prog 78) [0,1,1,1,0] u5 (St.mk [(0,int i64 u3),(1,u9),(2,ref 0 0),(4,ref 2 0),(5,ref 3 0),(6,ref 4 0),(14,AV.bool (decide (u3<u3)))] u1 g))/\(decide (u3<u3)=false->2<=2/\(∀(hp:List AObj) (g:R.σ),true=true/\Does Tryd.prog R 80 [av p,u9] hp g (ret (int u64 (↑(fol p.rules.l s):Int))) hp g)/\(u8=true->Flw Tryd.prog/\1<=1/\(true=true/\Does Tryd.prog R 77 [u9] u1 g (ret (fn 105 0 (nth []) 1 (nth [ref 6 0]))) u2 g)/\(true=true/\Does Tryd.prog R 75 [fn 105 0 (nth []) 1 (nth [ref 6 0])] u2 g (ret u4) [cells false 1 fun x=>ow true 5 m 1,u12,u7,u6,u11,cells false (m*1) fun a=>fz Fz.auto 1 (List.length (ak (List.getD L a 0)).l) fun i x=>ac (ak (List.getD L a 0)).l i,cells false 1 fun j=>any] g)/\0<1/\(m+1)*24<=aB/\m+1<=aB/\1<=1/\m*1<=m*1/\(∀(c:Nat),c<(m+1)*1->(fz Fz.auto 1 (List.length (ak (List.getD (L++[s]) c 0)).l) fun i x=>ac (ak (List.getD (L++[s]) c 0)).l i)=a8 1 m (fun (i j:Nat)=>fz Fz.auto 1 (List.length (ak (List.getD L (i*1+j) 0)).l) fun i_1 x=>ac (ak (List.getD L (i*1+j) 0)).l i_1) (fun (i j:Nat)=>aj (fun (j:Nat)=>fz Fz.nil 0 0 fun x x_1=>any) 0 1 (fun (x:Nat)=>u4) (0+i*1+j)) c)/\1<=1/\(∀(c:Nat),c<1->nth [ow true 8 (m+1) 1] c=aj (fun (x:Nat)=>ow true 5 m 1) 0 1 (fun (x:Nat)=>ow true 8 (m+1) 1) c)/\Q AEx.normal (St.mk [] [cells false 1 (nth [ow true 8 (m+1) 1]),u12,u7,u6,u11,dead,cells false 1 fun j=>any,cells false 1 (aj (fun (j:Nat)=>fz Fz.nil 0 0 fun x x_1=>any) 0 1 fun x=>u4),cells false ((m+1)*1) fun a=>fz Fz.auto 1 (List.length (ak (List.getD (L++[s]) a 0)).l) fun i x=>ac (ak (List.getD (L++[s]) a 0)).l i] g))/\(u8=false->Wp Tryd.prog R 47 6 Rd.top (ax Tryd.prog 78) [0,1,1,1,1,1,1] u5 (St.mk [(1,u9),(2,ref 0 0),(35,AV.bool u8)] u1 g))))) (cells false 1 fun x=>int i64 (↑most:Int))) (cells false 2 (nth [int i64 p.atoms,af p.rules]))) ((↑m:Int)==(↑most:Int))) (int u64 (↑s:Int))) ((↑(fol p.rules.l s):Int)==(↑s:Int))) (cells false 1 fun x=>fz O.2 1 (List.length O.l) fun i x=>ac O.l i)) (cells false 1 fun x=>fn 78 0 (nth []) 5 (nth [ref 0 0,ref 1 0,ref 2 0,ref 3 0,ref 4 0]))) (aP Tryd.prog R 47 6 Rd.top (ax Tryd.prog 78) Q [Kont.blk 0])) (fz Fz.auto 1 (List.length (ak s).l) fun i x=>ac (ak s).l i)) ((↑(List.length O.l):Int))) ([cells false 1 fun x=>ow true 5 m 1,cells false 1 fun x=>int i64 (↑most:Int),cells false 1 fun x=>fz O.2 1 (List.length O.l) fun i x=>ac O.l i,cells false 1 fun x=>fn 78 0 (nth []) 5 (nth [ref 0 0,ref 1 0,ref 2 0,ref 3 0,ref 4 0]),cells false 2 (nth [int i64 p.atoms,af p.rules]),cells false (m*1) fun a=>fz Fz.auto 1 (List.length (ak (List.getD L a 0)).l) fun i x=>ac (ak (List.getD L a 0)).l i,cells false 1 fun x=>int u64 (↑s:Int)])) ([cells false 1 fun x=>ow true 5 m 1,cells false 1 fun x=>int i64 (↑most:Int),cells false 1 fun x=>fz O.2 1 (List.length O.l) fun i x=>ac O.l i,cells false 1 fun x=>fn 78 0 (nth []) 5 (nth [ref 0 0,ref 1 0,ref 2 0,ref 3 0,ref 4 0]),cells false 2 (nth [int i64 p.atoms,af p.rules]),cells false (m*1) fun a=>fz Fz.auto 1 (List.length (ak (List.getD L a 0)).l) fun i x=>ac (ak (List.getD L a 0)).l i])) ⟨omg,omg,fun hcc=>(nomatch (hz.symm.trans hcc)),fun _=>⟨omg,fun hcc=>(nomatch (hb.symm.trans hcc)),fun _=>⟨omg,(fun _ _=>⟨rfl,(ll _ _ _ _ omg omg omg _)⟩),fun _=>⟨krf,omg,⟨rfl,(cK _ _ _ _)⟩,⟨rfl,(doT (T:=LT) [6] 7 (fun R _ g=>hC R (s) omg g))⟩,omg,omg,omg,omg,omg,?_,omg,(fun c hc=>match c,hc with|0,_=>krf ),?_⟩,fun hcc=>(nomatch (hf.symm.trans hcc))⟩⟩⟩
  ·exact fun c hc=>(lN (L:=L) (m:=m) (z:=fun _=>.fz .nil 0 0 (fun _ _=>.any)) (old:=fun i j=>aH L (i*1+j)) hmL (fun i hi=>by show aH L (i*1+0)=aH L i;rw[show i*1+0=i by omega]) hc).trans krf
  ·refine lP (.tup 0 (nth [])) _ rfl trivial ?_
   refine ed [0,1,2,3,4,5,8] 9 ?_ ?_ ?_ ?_ ?_ ?_ ?_
   ·rfl
   ·rfl
   ·rfl
   ·rfl
   ·rfl
   ·exact⟨zT _,trivial⟩
   ·exact⟨⟨rfl,Nat.le_refl _,fun j hj=>match j,hj with|0,_=>zT _⟩,zW _,zW _,⟨rfl,Nat.le_refl _,fun j hj=>lQ⟩,⟨rfl,Nat.le_refl _,fun j hj=>match j,hj with|0,_=>zT _|1,_=>bk (by exact trivial)⟩,trivial,⟨rfl,Nat.le_refl _,fun j hj=>zT _⟩,trivial⟩
theorem yX {p:Prg}{most:Nat}{O:KL Int}{r:List Int}{k:Nat}(hm:1<=most/\most<=100)(hO:O.l.length<=10)(hk:k<O.l.length)(ha24:0<=O.l.getD k 0/\O.l.getD k 0<24)(ih:FromC p most O r ((k:Int)+1)):FromC p most O (O.l.getD k 0::r) (k:Int):=by
 have hroom:aB=140737488355328:=rfl
 have hb:decide ((k:Int)<(O.l.length:Int))=true:=decide_eq_true (by omega)
 have hz:(((0:Nat):Int)==(most:Int))=false:=by rw[beq_eq_false_iff_ne];omega
 have e0:∀s L,stF p most (O.l.getD k 0::r) s L=if L.length=most then L else stF p most r (s|||2^(O.l.getD k 0).toNat) (stF p most r s L):=fun s L=>rfl
 have hor:∀s:Nat,s<2^24->IntKind.u64.wrap ((BitVec.ofInt 64 (s:Int)|||BitVec.ofInt 64 ((2^(O.l.getD k 0).toNat:Nat):Int)).toNat:Int)=((s|||2^(O.l.getD k 0).toNat:Nat):Int):=fun s hs=>Tb.u64_or (bz hs) (bz (Nat.pow_lt_pow_right (by decide) (by omega)))
 have hor24:∀s:Nat,s<2^24->s|||2^(O.l.getD k 0).toNat<2^24:=fun s hs=>jT hs (by omega)
 constructor
 ·intro R _ s g hs h
  rw[e0,if_neg (by show ¬0=most;omega)] at h
  obtain⟨t,ht⟩:∃t,s|||2^(O.l.getD k 0).toNat=t:=⟨_,rfl⟩
  have ht24:t<2^24:=by rw[<-ht];exact hor24 s hs
  have hoS:=(hor s hs).trans (congrArg (fun n:Nat=>(n:Int)) ht)
  have hL1:stF p most r s []=[]:=by
   by_cases e:stF p most r s []=[]
   ·exact e
   ·exact absurd h (yV (eK (Nat.zero_le _)).2.1 e)
  rw[hL1,ht] at h
  have i1:=fun (R:Res) [Tab LT R] (g:R.σ)=>ih.nn R s g hs hL1
  have i2:∀(R:Res) [Tab LT R] (g:R.σ),Does Tryd.prog R 78 [.int .i64 ((k:Int)+1),.int .u64 (IntKind.u64.wrap ((BitVec.ofInt 64 (s:Int)|||BitVec.ofInt 64 ((2^(O.l.getD k 0).toNat:Nat):Int)).toNat:Int)),.ref 0 0,.ref 1 0,.ref 2 0,.ref 3 0,.ref 4 0] [.cells false 1 (fun _=>.fz .nil 0 0 (fun _ _=>.any)),.cells false 1 (fun _=>.int .i64 most),.cells false 1 (fun _=>ah O),.cells false 1 (fun _=>.fn 78 0 (nth []) 5 (nth [.ref 0 0,.ref 1 0,.ref 2 0,.ref 3 0,.ref 4 0])),.cells false 2 (nth [.int .i64 p.atoms,af p.rules])] g (.ret (.tup 0 (nth []))) [.cells false 1 (fun _=>.fz .nil 0 0 (fun _ _=>.any)),.cells false 1 (fun _=>.int .i64 most),.cells false 1 (fun _=>ah O),.cells false 1 (fun _=>.fn 78 0 (nth []) 5 (nth [.ref 0 0,.ref 1 0,.ref 2 0,.ref 3 0,.ref 4 0])),.cells false 2 (nth [.int .i64 p.atoms,af p.rules])] g:=fun R _ g=>by rw[hoS];exact ih.nn R t g ht24 h
  refine dF (nt:=47) (rs:=[]) (k0:=5) (by kernel_rfl) (by kernel_rfl) (by kernel_rfl) rfl ?_
  refine vcQ [[0,1,0],[0,1,1,1,1]] (lkL [(0,[0,1,2,4,5,6,9]),(1,[0,1,2,4,5,6,14]),(2,[0,1,4,5])]) (lkL [(2,[(4,ROrc.call (tup 0 (nth [])) [cells false 1 fun (x:Nat)=>fz Fz.nil 0 0 fun _ _=>any,cells false 1 fun (x:Nat)=>int i64 (most:Int),cells false 1 fun (x:Nat)=>ah O,cells false 1 fun (x:Nat)=>fn 78 0 (nth []) 5 (nth [ref 0 0,ref 1 0,ref 2 0,ref 3 0,ref 4 0]),cells false 2 (nth [int i64 p.atoms,af p.rules])] g)]),(3,[(8,ROrc.pcall (int u64 (↑(2^(O.l.getD k 0).toNat):Int))),(10,ROrc.callS (tup 0 (nth [])) [(2,cells false 1 fun (x:Nat)=>ah O)] g)])]) (fun Q=>(fun (u1:List AObj)=>(fun (u2:Int)=>(fun (u3:Int)=>(fun (u4:Bool)=>1<=1/\1<=1/\(u4=true->Wp Tryd.prog R 47 5 Rd.top (ax Tryd.prog 78) [0,1,0] (aP Tryd.prog R 47 5 Rd.top (ax Tryd.prog 78) Q [Kont.blk 0]) (St.mk [(0,int i64 u3),(1,int u64 (s:Int)),(2,ref 0 0),(4,ref 2 0),(5,ref 3 0),(6,ref 4 0),(9,AV.bool u4)] u1 g))/\(u4=false->1<=1/\(decide (u3<u2)=true->1<=1/\(-9223372036854775808<=u3+1/\u3+1<=9223372036854775807)/\(true=true/\Does Tryd.prog R 78 [int i64 (u3+1),int u64 (s:Int),ref 0 0,ref 1 0,ref 2 0,ref 3 0,ref 4 0] u1 g (ret (tup 0 (nth []))) u1 g)/\Tables.follows Tryd.prog.toTables Departure.mixedOrders=true/\1<=1/\(-9223372036854775808<=u3+1/\u3+1<=9223372036854775807)/\1<=1/\(0<=u3/\u3<u2)/\1<=1/\(∀(hp:List AObj) (g:R.σ),true=true/\Does Tryd.prog R 79 [ac O.l k] hp g (ret (int u64 (↑(2^(O.l.getD k 0).toNat):Int))) hp g)/\(true=true/\Does Tryd.prog R 78 [int i64 (u3+1),int u64 (IntKind.wrap u64 (↑(BitVec.toNat (BitVec.ofInt 64 (s:Int)|||BitVec.ofInt 64 (↑(2^(O.l.getD k 0).toNat):Int))):Int)),ref 0 0,ref 1 0,ref 2 0,ref 3 0,ref 4 0] u1 g (ret (tup 0 (nth []))) u1 g)/\Q AEx.normal (St.mk [] u1 g))/\(decide (u3<u2)=false->Wp Tryd.prog R 47 5 Rd.top (ax Tryd.prog 78) [0,1,1,1,1] (aP Tryd.prog R 47 5 Rd.top (ax Tryd.prog 78) Q [Kont.blk 0]) (St.mk [(0,int i64 u3),(1,int u64 (s:Int)),(2,ref 0 0),(4,ref 2 0),(5,ref 3 0),(6,ref 4 0),(14,AV.bool (decide (u3<u2)))] u1 g)))) ((↑0:Int)==(most:Int))) ((k:Int))) ((O.l.length:Int))) ([cells false 1 fun (x:Nat)=>fz Fz.nil 0 0 fun _ _=>any,cells false 1 fun (x:Nat)=>int i64 (most:Int),cells false 1 fun (x:Nat)=>fz O.2 1 (O.l.length) fun (i x:Nat)=>ac O.l i,cells false 1 fun (x:Nat)=>fn 78 0 (nth []) 5 (nth [ref 0 0,ref 1 0,ref 2 0,ref 3 0,ref 4 0]),cells false 2 (nth [int i64 p.atoms,af p.rules])])) (fun _=>by kernel_rfl) ⟨by omega,by omega,fun hcc=>(nomatch (hz.symm.trans hcc)),fun _=>⟨by omega,fun _=>⟨by omega,by omega,⟨rfl,(i1 _ _)⟩,by kernel_rfl,by omega,by omega,by omega,by omega,by omega,(fun _ _=>⟨rfl,(dV _ _ (by omega) _ _)⟩),⟨rfl,(i2 _ _)⟩,?_⟩,fun hcc=>(nomatch (hb.symm.trans hcc))⟩⟩
  refine(aq (aU _ _ rfl trivial rfl rfl rfl) (zT _))
 ·intro R _ s m' L' g hs h hL' hm'
  rw[e0,if_neg (by show ¬0=most;omega)] at h
  obtain⟨t,ht⟩:∃t,s|||2^(O.l.getD k 0).toNat=t:=⟨_,rfl⟩
  have ht24:t<2^24:=by rw[<-ht];exact hor24 s hs
  have hoS:=(hor s hs).trans (congrArg (fun n:Nat=>(n:Int)) ht)
  rw[ht] at h
  obtain⟨L,hL⟩:∃L,stF p most r s []=L:=⟨_,rfl⟩
  have hlen:=eK (p:=p) (most:=most) (r:=r) (s:=s) (out:=[]) (Nat.zero_le _)
  rw[hL] at h hlen
  by_cases e:L=[]
  ·subst e
   have i1:=fun (R:Res) [Tab LT R] (g:R.σ)=>ih.nn R s g hs hL
   have i2:∀(R:Res) [Tab LT R] (g:R.σ),Does Tryd.prog R 78 [.int .i64 ((k:Int)+1),.int .u64 (IntKind.u64.wrap ((BitVec.ofInt 64 (s:Int)|||BitVec.ofInt 64 ((2^(O.l.getD k 0).toNat:Nat):Int)).toNat:Int)),.ref 0 0,.ref 1 0,.ref 2 0,.ref 3 0,.ref 4 0] [.cells false 1 (fun _=>.fz .nil 0 0 (fun _ _=>.any)),.cells false 1 (fun _=>.int .i64 most),.cells false 1 (fun _=>ah O),.cells false 1 (fun _=>.fn 78 0 (nth []) 5 (nth [.ref 0 0,.ref 1 0,.ref 2 0,.ref 3 0,.ref 4 0])),.cells false 2 (nth [.int .i64 p.atoms,af p.rules])] g (.ret (.tup 0 (nth []))) [.cells false 1 (fun _=>.ow true 5 m' 1),.cells false 1 (fun _=>.int .i64 most),.cells false 1 (fun _=>ah O),.cells false 1 (fun _=>.fn 78 0 (nth []) 5 (nth [.ref 0 0,.ref 1 0,.ref 2 0,.ref 3 0,.ref 4 0])),.cells false 2 (nth [.int .i64 p.atoms,af p.rules]),.cells false (m'*1) (aH L')] g:=fun R _ g=>by rw[hoS];exact ih.nw R t m' L' g ht24 h hL' hm'
   refine dF (nt:=47) (rs:=[]) (k0:=5) (by kernel_rfl) (by kernel_rfl) (by kernel_rfl) rfl ?_
   refine vcQ [[0,1,0],[0,1,1,1,1]] (lkL [(0,[0,1,2,4,5,6,9]),(1,[0,1,2,4,5,6,14]),(2,[0,1,4,5])]) (lkL [(2,[(4,ROrc.call (tup 0 (nth [])) [cells false 1 fun (x:Nat)=>fz Fz.nil 0 0 fun _ _=>any,cells false 1 fun (x:Nat)=>int i64 (most:Int),cells false 1 fun (x:Nat)=>ah O,cells false 1 fun (x:Nat)=>fn 78 0 (nth []) 5 (nth [ref 0 0,ref 1 0,ref 2 0,ref 3 0,ref 4 0]),cells false 2 (nth [int i64 p.atoms,af p.rules])] g)]),(3,[(8,ROrc.pcall (int u64 (↑(2^(O.l.getD k 0).toNat):Int))),(10,ROrc.callN (tup 0 (nth [])) [(0,cells false 1 fun (x:Nat)=>ow true 5 m' 1),(2,cells false 1 fun (x:Nat)=>ah O)] [cells false (m'*1) (aH L')] g)])]) (fun Q=>(fun (u1:List AObj)=>(fun (u2:List AObj)=>(fun (u3:Int)=>(fun (u4:Int)=>(fun (u5:Bool)=>1<=1/\1<=1/\(u5=true->Wp Tryd.prog R 47 5 Rd.top (ax Tryd.prog 78) [0,1,0] (aP Tryd.prog R 47 5 Rd.top (ax Tryd.prog 78) Q [Kont.blk 0]) (St.mk [(0,int i64 u4),(1,int u64 (s:Int)),(2,ref 0 0),(4,ref 2 0),(5,ref 3 0),(6,ref 4 0),(9,AV.bool u5)] u1 g))/\(u5=false->1<=1/\(decide (u4<u3)=true->1<=1/\(-9223372036854775808<=u4+1/\u4+1<=9223372036854775807)/\(true=true/\Does Tryd.prog R 78 [int i64 (u4+1),int u64 (s:Int),ref 0 0,ref 1 0,ref 2 0,ref 3 0,ref 4 0] u1 g (ret (tup 0 (nth []))) u1 g)/\Tables.follows Tryd.prog.toTables Departure.mixedOrders=true/\1<=1/\(-9223372036854775808<=u4+1/\u4+1<=9223372036854775807)/\1<=1/\(0<=u4/\u4<u3)/\1<=1/\(∀(hp:List AObj) (g:R.σ),true=true/\Does Tryd.prog R 79 [ac O.l k] hp g (ret (int u64 (↑(2^(O.l.getD k 0).toNat):Int))) hp g)/\(true=true/\Does Tryd.prog R 78 [int i64 (u4+1),int u64 (IntKind.wrap u64 (↑(BitVec.toNat (BitVec.ofInt 64 (s:Int)|||BitVec.ofInt 64 (↑(2^(O.l.getD k 0).toNat):Int))):Int)),ref 0 0,ref 1 0,ref 2 0,ref 3 0,ref 4 0] u1 g (ret (tup 0 (nth []))) u2 g)/\Q AEx.normal (St.mk [] u2 g))/\(decide (u4<u3)=false->Wp Tryd.prog R 47 5 Rd.top (ax Tryd.prog 78) [0,1,1,1,1] (aP Tryd.prog R 47 5 Rd.top (ax Tryd.prog 78) Q [Kont.blk 0]) (St.mk [(0,int i64 u4),(1,int u64 (s:Int)),(2,ref 0 0),(4,ref 2 0),(5,ref 3 0),(6,ref 4 0),(14,AV.bool (decide (u4<u3)))] u1 g)))) ((↑0:Int)==(most:Int))) ((k:Int))) ((O.l.length:Int))) ([cells false 1 fun (x:Nat)=>ow true 5 m' 1,cells false 1 fun (x:Nat)=>int i64 (most:Int),cells false 1 fun (x:Nat)=>fz O.2 1 (O.l.length) fun (i x:Nat)=>ac O.l i,cells false 1 fun (x:Nat)=>fn 78 0 (nth []) 5 (nth [ref 0 0,ref 1 0,ref 2 0,ref 3 0,ref 4 0]),cells false 2 (nth [int i64 p.atoms,af p.rules]),cells false (m'*1) fun (a:Nat)=>fz Fz.auto 1 ((ak (L'.getD a 0)).l.length) fun (i x:Nat)=>ac (ak (L'.getD a 0)).l i])) ([cells false 1 fun (x:Nat)=>fz Fz.nil 0 0 fun _ _=>any,cells false 1 fun (x:Nat)=>int i64 (most:Int),cells false 1 fun (x:Nat)=>fz O.2 1 (O.l.length) fun (i x:Nat)=>ac O.l i,cells false 1 fun (x:Nat)=>fn 78 0 (nth []) 5 (nth [ref 0 0,ref 1 0,ref 2 0,ref 3 0,ref 4 0]),cells false 2 (nth [int i64 p.atoms,af p.rules])])) (fun _=>by kernel_rfl) ⟨by omega,by omega,fun hcc=>(nomatch (hz.symm.trans hcc)),fun _=>⟨by omega,fun _=>⟨by omega,by omega,⟨rfl,(i1 _ _)⟩,by kernel_rfl,by omega,by omega,by omega,by omega,by omega,(fun _ _=>⟨rfl,(dV _ _ (by omega) _ _)⟩),⟨rfl,(i2 _ _)⟩,?_⟩,fun hcc=>(nomatch (hb.symm.trans hcc))⟩⟩
   refine(aq (aU _ _ rfl trivial rfl rfl rfl) (zT _))
  ·obtain⟨m,hmL⟩:∃m,m=L.length:=⟨_,rfl⟩
   have h0:0<m:=by rw[hmL];exact List.length_pos_iff.2 e
   have hmm:m<=most:=by rw[hmL];exact hlen.2.1
   have hlen2:=eK (p:=p) (most:=most) (r:=r) (s:=t) (out:=L) hlen.2.1
   rw[h] at hlen2
   have h0':0<m':=by omega
   have hmm':m'<=most:=by omega
   have i1:=fun (R:Res) [Tab LT R] (g:R.σ)=>ih.nw R s m L g hs hL e hmL
   by_cases hmm1:m=m'
   ·have hLL:L'=L:=hlen2.2.2 (by omega)
    subst hLL
    subst hmm1
    have i2:∀(R:Res) [Tab LT R] (g:R.σ),Does Tryd.prog R 78 [.int .i64 ((k:Int)+1),.int .u64 (IntKind.u64.wrap ((BitVec.ofInt 64 (s:Int)|||BitVec.ofInt 64 ((2^(O.l.getD k 0).toNat:Nat):Int)).toNat:Int)),.ref 0 0,.ref 1 0,.ref 2 0,.ref 3 0,.ref 4 0] [.cells false 1 (fun _=>.ow true 5 m 1),.cells false 1 (fun _=>.int .i64 most),.cells false 1 (fun _=>ah O),.cells false 1 (fun _=>.fn 78 0 (nth []) 5 (nth [.ref 0 0,.ref 1 0,.ref 2 0,.ref 3 0,.ref 4 0])),.cells false 2 (nth [.int .i64 p.atoms,af p.rules]),.cells false (m*1) (aH L')] g (.ret (.tup 0 (nth []))) [.cells false 1 (fun _=>.ow true 5 m 1),.cells false 1 (fun _=>.int .i64 most),.cells false 1 (fun _=>ah O),.cells false 1 (fun _=>.fn 78 0 (nth []) 5 (nth [.ref 0 0,.ref 1 0,.ref 2 0,.ref 3 0,.ref 4 0])),.cells false 2 (nth [.int .i64 p.atoms,af p.rules]),.cells false (m*1) (aH L')] g:=fun R _ g=>by rw[hoS];exact ih.on R t m L' g ht24 hL' hmL hmm h
    refine dF (nt:=47) (rs:=[]) (k0:=5) (by kernel_rfl) (by kernel_rfl) (by kernel_rfl) rfl ?_
    refine vcQ [[0,1,0],[0,1,1,1,1]] (lkL [(0,[0,1,2,4,5,6,9]),(1,[0,1,2,4,5,6,14]),(2,[0,1,4,5])]) (lkL [(2,[(4,ROrc.call (tup 0 (nth [])) [cells false 1 fun (x:Nat)=>ow true 5 m 1,cells false 1 fun (x:Nat)=>int i64 (most:Int),cells false 1 fun (x:Nat)=>ah O,cells false 1 fun (x:Nat)=>fn 78 0 (nth []) 5 (nth [ref 0 0,ref 1 0,ref 2 0,ref 3 0,ref 4 0]),cells false 2 (nth [int i64 p.atoms,af p.rules]),cells false (m*1) (aH L')] g)]),(3,[(8,ROrc.pcall (int u64 (↑(2^(O.l.getD k 0).toNat):Int))),(10,ROrc.callS (tup 0 (nth [])) [(2,cells false 1 fun (x:Nat)=>ah O),(5,cells false (m*1) (aH L'))] g)])]) (fun Q=>(fun (u1:List AObj)=>(fun (u2:List AObj)=>(fun (u3:Int)=>(fun (u4:Int)=>(fun (u5:Bool)=>1<=1/\1<=1/\(u5=true->Wp Tryd.prog R 47 5 Rd.top (ax Tryd.prog 78) [0,1,0] (aP Tryd.prog R 47 5 Rd.top (ax Tryd.prog 78) Q [Kont.blk 0]) (St.mk [(0,int i64 u4),(1,int u64 (s:Int)),(2,ref 0 0),(4,ref 2 0),(5,ref 3 0),(6,ref 4 0),(9,AV.bool u5)] u2 g))/\(u5=false->1<=1/\(decide (u4<u3)=true->1<=1/\(-9223372036854775808<=u4+1/\u4+1<=9223372036854775807)/\(true=true/\Does Tryd.prog R 78 [int i64 (u4+1),int u64 (s:Int),ref 0 0,ref 1 0,ref 2 0,ref 3 0,ref 4 0] u2 g (ret (tup 0 (nth []))) u1 g)/\Tables.follows Tryd.prog.toTables Departure.mixedOrders=true/\1<=1/\(-9223372036854775808<=u4+1/\u4+1<=9223372036854775807)/\1<=1/\(0<=u4/\u4<u3)/\1<=1/\(∀(hp:List AObj) (g:R.σ),true=true/\Does Tryd.prog R 79 [ac O.l k] hp g (ret (int u64 (↑(2^(O.l.getD k 0).toNat):Int))) hp g)/\(true=true/\Does Tryd.prog R 78 [int i64 (u4+1),int u64 (IntKind.wrap u64 (↑(BitVec.toNat (BitVec.ofInt 64 (s:Int)|||BitVec.ofInt 64 (↑(2^(O.l.getD k 0).toNat):Int))):Int)),ref 0 0,ref 1 0,ref 2 0,ref 3 0,ref 4 0] u1 g (ret (tup 0 (nth []))) u1 g)/\Q AEx.normal (St.mk [] u1 g))/\(decide (u4<u3)=false->Wp Tryd.prog R 47 5 Rd.top (ax Tryd.prog 78) [0,1,1,1,1] (aP Tryd.prog R 47 5 Rd.top (ax Tryd.prog 78) Q [Kont.blk 0]) (St.mk [(0,int i64 u4),(1,int u64 (s:Int)),(2,ref 0 0),(4,ref 2 0),(5,ref 3 0),(6,ref 4 0),(14,AV.bool (decide (u4<u3)))] u2 g)))) ((↑0:Int)==(most:Int))) ((k:Int))) ((O.l.length:Int))) ([cells false 1 fun (x:Nat)=>fz Fz.nil 0 0 fun _ _=>any,cells false 1 fun (x:Nat)=>int i64 (most:Int),cells false 1 fun (x:Nat)=>fz O.2 1 (O.l.length) fun (i x:Nat)=>ac O.l i,cells false 1 fun (x:Nat)=>fn 78 0 (nth []) 5 (nth [ref 0 0,ref 1 0,ref 2 0,ref 3 0,ref 4 0]),cells false 2 (nth [int i64 p.atoms,af p.rules])])) ([cells false 1 fun (x:Nat)=>ow true 5 m 1,cells false 1 fun (x:Nat)=>int i64 (most:Int),cells false 1 fun (x:Nat)=>fz O.2 1 (O.l.length) fun (i x:Nat)=>ac O.l i,cells false 1 fun (x:Nat)=>fn 78 0 (nth []) 5 (nth [ref 0 0,ref 1 0,ref 2 0,ref 3 0,ref 4 0]),cells false 2 (nth [int i64 p.atoms,af p.rules]),cells false (m*1) fun (a:Nat)=>fz Fz.auto 1 ((ak (L'.getD a 0)).l.length) fun (i x:Nat)=>ac (ak (L'.getD a 0)).l i])) (fun _=>by kernel_rfl) ⟨by omega,by omega,fun hcc=>(nomatch (hz.symm.trans hcc)),fun _=>⟨by omega,fun _=>⟨by omega,by omega,⟨rfl,(i1 _ _)⟩,by kernel_rfl,by omega,by omega,by omega,by omega,by omega,(fun _ _=>⟨rfl,(dV _ _ (by omega) _ _)⟩),⟨rfl,(i2 _ _)⟩,?_⟩,fun hcc=>(nomatch (hb.symm.trans hcc))⟩⟩
    refine(aq (aU _ _ rfl trivial rfl rfl rfl) (zT _))
   ·have i2:∀(R:Res) [Tab LT R] (g:R.σ),Does Tryd.prog R 78 [.int .i64 ((k:Int)+1),.int .u64 (IntKind.u64.wrap ((BitVec.ofInt 64 (s:Int)|||BitVec.ofInt 64 ((2^(O.l.getD k 0).toNat:Nat):Int)).toNat:Int)),.ref 0 0,.ref 1 0,.ref 2 0,.ref 3 0,.ref 4 0] [.cells false 1 (fun _=>.ow true 5 m 1),.cells false 1 (fun _=>.int .i64 most),.cells false 1 (fun _=>ah O),.cells false 1 (fun _=>.fn 78 0 (nth []) 5 (nth [.ref 0 0,.ref 1 0,.ref 2 0,.ref 3 0,.ref 4 0])),.cells false 2 (nth [.int .i64 p.atoms,af p.rules]),.cells false (m*1) (aH L)] g (.ret (.tup 0 (nth []))) [.cells false 1 (fun _=>.ow true 6 m' 1),.cells false 1 (fun _=>.int .i64 most),.cells false 1 (fun _=>ah O),.cells false 1 (fun _=>.fn 78 0 (nth []) 5 (nth [.ref 0 0,.ref 1 0,.ref 2 0,.ref 3 0,.ref 4 0])),.cells false 2 (nth [.int .i64 p.atoms,af p.rules]),.dead,.cells false (m'*1) (aH L')] g:=fun R _ g=>by rw[hoS];exact ih.ow R t m m' L L' g ht24 e hmL hmm h hm' hmm1
    refine dF (nt:=47) (rs:=[]) (k0:=5) (by kernel_rfl) (by kernel_rfl) (by kernel_rfl) rfl ?_
    refine vcQ [[0,1,0],[0,1,1,1,1]] (lkL [(0,[0,1,2,4,5,6,9]),(1,[0,1,2,4,5,6,14]),(2,[0,1,4,5])]) (lkL [(2,[(4,ROrc.call (tup 0 (nth [])) [cells false 1 fun (x:Nat)=>ow true 5 m 1,cells false 1 fun (x:Nat)=>int i64 (most:Int),cells false 1 fun (x:Nat)=>ah O,cells false 1 fun (x:Nat)=>fn 78 0 (nth []) 5 (nth [ref 0 0,ref 1 0,ref 2 0,ref 3 0,ref 4 0]),cells false 2 (nth [int i64 p.atoms,af p.rules]),cells false (m*1) (aH L)] g)]),(3,[(8,ROrc.pcall (int u64 (↑(2^(O.l.getD k 0).toNat):Int))),(10,ROrc.callN (tup 0 (nth [])) [(0,cells false 1 fun (x:Nat)=>ow true 6 m' 1),(2,cells false 1 fun (x:Nat)=>ah O),(5,dead)] [cells false (m'*1) (aH L')] g)])]) (fun Q=>(fun (u1:List AObj)=>(fun (u2:List AObj)=>(fun (u3:List AObj)=>(fun (u4:Int)=>(fun (u5:Int)=>(fun (u6:Bool)=>1<=1/\1<=1/\(u6=true->Wp Tryd.prog R 47 5 Rd.top (ax Tryd.prog 78) [0,1,0] (aP Tryd.prog R 47 5 Rd.top (ax Tryd.prog 78) Q [Kont.blk 0]) (St.mk [(0,int i64 u5),(1,int u64 (s:Int)),(2,ref 0 0),(4,ref 2 0),(5,ref 3 0),(6,ref 4 0),(9,AV.bool u6)] u1 g))/\(u6=false->1<=1/\(decide (u5<u4)=true->1<=1/\(-9223372036854775808<=u5+1/\u5+1<=9223372036854775807)/\(true=true/\Does Tryd.prog R 78 [int i64 (u5+1),int u64 (s:Int),ref 0 0,ref 1 0,ref 2 0,ref 3 0,ref 4 0] u1 g (ret (tup 0 (nth []))) u3 g)/\Tables.follows Tryd.prog.toTables Departure.mixedOrders=true/\1<=1/\(-9223372036854775808<=u5+1/\u5+1<=9223372036854775807)/\1<=1/\(0<=u5/\u5<u4)/\1<=1/\(∀(hp:List AObj) (g:R.σ),true=true/\Does Tryd.prog R 79 [ac O.l k] hp g (ret (int u64 (↑(2^(O.l.getD k 0).toNat):Int))) hp g)/\(true=true/\Does Tryd.prog R 78 [int i64 (u5+1),int u64 (IntKind.wrap u64 (↑(BitVec.toNat (BitVec.ofInt 64 (s:Int)|||BitVec.ofInt 64 (↑(2^(O.l.getD k 0).toNat):Int))):Int)),ref 0 0,ref 1 0,ref 2 0,ref 3 0,ref 4 0] u3 g (ret (tup 0 (nth []))) u2 g)/\Q AEx.normal (St.mk [] u2 g))/\(decide (u5<u4)=false->Wp Tryd.prog R 47 5 Rd.top (ax Tryd.prog 78) [0,1,1,1,1] (aP Tryd.prog R 47 5 Rd.top (ax Tryd.prog 78) Q [Kont.blk 0]) (St.mk [(0,int i64 u5),(1,int u64 (s:Int)),(2,ref 0 0),(4,ref 2 0),(5,ref 3 0),(6,ref 4 0),(14,AV.bool (decide (u5<u4)))] u1 g)))) ((↑0:Int)==(most:Int))) ((k:Int))) ((O.l.length:Int))) ([cells false 1 fun (x:Nat)=>ow true 5 m 1,cells false 1 fun (x:Nat)=>int i64 (most:Int),cells false 1 fun (x:Nat)=>fz O.2 1 (O.l.length) fun (i x:Nat)=>ac O.l i,cells false 1 fun (x:Nat)=>fn 78 0 (nth []) 5 (nth [ref 0 0,ref 1 0,ref 2 0,ref 3 0,ref 4 0]),cells false 2 (nth [int i64 p.atoms,af p.rules]),cells false (m*1) fun (a:Nat)=>fz Fz.auto 1 ((ak (L.getD a 0)).l.length) fun (i x:Nat)=>ac (ak (L.getD a 0)).l i])) ([cells false 1 fun (x:Nat)=>ow true 6 m' 1,cells false 1 fun (x:Nat)=>int i64 (most:Int),cells false 1 fun (x:Nat)=>fz O.2 1 (O.l.length) fun (i x:Nat)=>ac O.l i,cells false 1 fun (x:Nat)=>fn 78 0 (nth []) 5 (nth [ref 0 0,ref 1 0,ref 2 0,ref 3 0,ref 4 0]),cells false 2 (nth [int i64 p.atoms,af p.rules]),dead,cells false (m'*1) fun (a:Nat)=>fz Fz.auto 1 ((ak (L'.getD a 0)).l.length) fun (i x:Nat)=>ac (ak (L'.getD a 0)).l i])) ([cells false 1 fun (x:Nat)=>fz Fz.nil 0 0 fun _ _=>any,cells false 1 fun (x:Nat)=>int i64 (most:Int),cells false 1 fun (x:Nat)=>fz O.2 1 (O.l.length) fun (i x:Nat)=>ac O.l i,cells false 1 fun (x:Nat)=>fn 78 0 (nth []) 5 (nth [ref 0 0,ref 1 0,ref 2 0,ref 3 0,ref 4 0]),cells false 2 (nth [int i64 p.atoms,af p.rules])])) (fun _=>by kernel_rfl) ⟨by omega,by omega,fun hcc=>(nomatch (hz.symm.trans hcc)),fun _=>⟨by omega,fun _=>⟨by omega,by omega,⟨rfl,(i1 _ _)⟩,by kernel_rfl,by omega,by omega,by omega,by omega,by omega,(fun _ _=>⟨rfl,(dV _ _ (by omega) _ _)⟩),⟨rfl,(i2 _ _)⟩,?_⟩,fun hcc=>(nomatch (hb.symm.trans hcc))⟩⟩
    refine lP (.tup 0 (nth [])) _ rfl trivial ?_
    refine ed [0,1,2,3,4,6] 7 ?_ ?_ ?_ ?_ ?_ ?_ ?_
    ·rfl
    ·rfl
    ·rfl
    ·rfl
    ·rfl
    ·exact⟨zT _,trivial⟩
    ·exact⟨⟨rfl,Nat.le_refl _,fun j hj=>zT _⟩,zW _,zW _,⟨rfl,Nat.le_refl _,fun j hj=>lQ⟩,⟨rfl,Nat.le_refl _,fun j hj=>match j,hj with|0,_=>zT _|1,_=>bk (by exact trivial)⟩,⟨rfl,Nat.le_refl _,fun j hj=>zT _⟩,trivial⟩
 ·intro R _ s m L g hs hL hmL hmm h
  rw[e0] at h
  have h0:0<m:=by rw[hmL];exact List.length_pos_iff.2 hL
  by_cases hf:m=most
  ·have hz:((m:Int)==(most:Int))=true:=by rw[beq_iff_eq];omega
   refine dF (nt:=47) (rs:=[]) (k0:=6) (by kernel_rfl) (by kernel_rfl) (by kernel_rfl) rfl ?_
   refine vcQ [[0,1,1]] (lkL [(0,[0,1,2,4,5,6,9])]) (fun _=>[]) (fun Q=>(fun (u1:St R.σ)=>1<=1/\1<=1/\(((m:Int)==(most:Int))=true->Q AEx.normal u1)/\(((m:Int)==(most:Int))=false->Wp Tryd.prog R 47 6 Rd.top (ax Tryd.prog 78) [0,1,1] (aP Tryd.prog R 47 6 Rd.top (ax Tryd.prog 78) Q [Kont.blk 0]) u1)) (St.mk [(0,int i64 (k:Int)),(1,int u64 (s:Int)),(2,ref 0 0),(4,ref 2 0),(5,ref 3 0),(6,ref 4 0),(9,AV.bool ((m:Int)==(most:Int)))] [cells false 1 fun (x:Nat)=>ow true 5 m 1,cells false 1 fun (x:Nat)=>int i64 (most:Int),cells false 1 fun (x:Nat)=>fz O.2 1 (O.l.length) fun (i x:Nat)=>ac O.l i,cells false 1 fun (x:Nat)=>fn 78 0 (nth []) 5 (nth [ref 0 0,ref 1 0,ref 2 0,ref 3 0,ref 4 0]),cells false 2 (nth [int i64 p.atoms,af p.rules]),cells false (m*1) fun (a:Nat)=>fz Fz.auto 1 ((ak (L.getD a 0)).l.length) fun (i x:Nat)=>ac (ak (L.getD a 0)).l i] g)) (fun _=>by kernel_rfl) ⟨by omega,by omega,fun _=>?_,fun hcc=>(nomatch (hz.symm.trans hcc))⟩
   refine(aq (aU _ _ rfl trivial rfl rfl rfl) (zT _))
  ·have hz:((m:Int)==(most:Int))=false:=by rw[beq_eq_false_iff_ne];omega
   rw[if_neg (by omega)] at h
   obtain⟨t,ht⟩:∃t,s|||2^(O.l.getD k 0).toNat=t:=⟨_,rfl⟩
   have ht24:t<2^24:=by rw[<-ht];exact hor24 s hs
   have hoS:=(hor s hs).trans (congrArg (fun n:Nat=>(n:Int)) ht)
   rw[ht] at h
   have hlen:=eK (p:=p) (most:=most) (r:=r) (s:=s) (out:=L) (by omega)
   have hlen2:=eK (p:=p) (most:=most) (r:=r) (s:=t) (out:=stF p most r s L) hlen.2.1
   rw[h] at hlen2
   have hL1:=hlen.2.2 (by omega)
   rw[hL1] at h
   have i1:=fun (R:Res) [Tab LT R] (g:R.σ)=>ih.on R s m L g hs hL hmL hmm hL1
   have i2:∀(R:Res) [Tab LT R] (g:R.σ),Does Tryd.prog R 78 [.int .i64 ((k:Int)+1),.int .u64 (IntKind.u64.wrap ((BitVec.ofInt 64 (s:Int)|||BitVec.ofInt 64 ((2^(O.l.getD k 0).toNat:Nat):Int)).toNat:Int)),.ref 0 0,.ref 1 0,.ref 2 0,.ref 3 0,.ref 4 0] [.cells false 1 (fun _=>.ow true 5 m 1),.cells false 1 (fun _=>.int .i64 most),.cells false 1 (fun _=>ah O),.cells false 1 (fun _=>.fn 78 0 (nth []) 5 (nth [.ref 0 0,.ref 1 0,.ref 2 0,.ref 3 0,.ref 4 0])),.cells false 2 (nth [.int .i64 p.atoms,af p.rules]),.cells false (m*1) (aH L)] g (.ret (.tup 0 (nth []))) [.cells false 1 (fun _=>.ow true 5 m 1),.cells false 1 (fun _=>.int .i64 most),.cells false 1 (fun _=>ah O),.cells false 1 (fun _=>.fn 78 0 (nth []) 5 (nth [.ref 0 0,.ref 1 0,.ref 2 0,.ref 3 0,.ref 4 0])),.cells false 2 (nth [.int .i64 p.atoms,af p.rules]),.cells false (m*1) (aH L)] g:=fun R _ g=>by rw[hoS];exact ih.on R t m L g ht24 hL hmL hmm h
   refine dF (nt:=47) (rs:=[]) (k0:=6) (by kernel_rfl) (by kernel_rfl) (by kernel_rfl) rfl ?_
   refine vcQ [[0,1,0],[0,1,1,1,1]] (lkL [(0,[0,1,2,4,5,6,9]),(1,[0,1,2,4,5,6,14]),(2,[0,1,4,5])]) (lkL [(2,[(4,ROrc.call (tup 0 (nth [])) [cells false 1 fun (x:Nat)=>ow true 5 m 1,cells false 1 fun (x:Nat)=>int i64 (most:Int),cells false 1 fun (x:Nat)=>ah O,cells false 1 fun (x:Nat)=>fn 78 0 (nth []) 5 (nth [ref 0 0,ref 1 0,ref 2 0,ref 3 0,ref 4 0]),cells false 2 (nth [int i64 p.atoms,af p.rules]),cells false (m*1) (aH L)] g)]),(3,[(8,ROrc.pcall (int u64 (↑(2^(O.l.getD k 0).toNat):Int))),(10,ROrc.callS (tup 0 (nth [])) [(2,cells false 1 fun (x:Nat)=>ah O),(5,cells false (m*1) (aH L))] g)])]) (fun Q=>(fun (u1:List AObj)=>(fun (u2:Int)=>(fun (u3:Int)=>(fun (u4:Bool)=>1<=1/\1<=1/\(u4=true->Wp Tryd.prog R 47 6 Rd.top (ax Tryd.prog 78) [0,1,0] (aP Tryd.prog R 47 6 Rd.top (ax Tryd.prog 78) Q [Kont.blk 0]) (St.mk [(0,int i64 u3),(1,int u64 (s:Int)),(2,ref 0 0),(4,ref 2 0),(5,ref 3 0),(6,ref 4 0),(9,AV.bool u4)] u1 g))/\(u4=false->1<=1/\(decide (u3<u2)=true->1<=1/\(-9223372036854775808<=u3+1/\u3+1<=9223372036854775807)/\(true=true/\Does Tryd.prog R 78 [int i64 (u3+1),int u64 (s:Int),ref 0 0,ref 1 0,ref 2 0,ref 3 0,ref 4 0] u1 g (ret (tup 0 (nth []))) u1 g)/\Tables.follows Tryd.prog.toTables Departure.mixedOrders=true/\1<=1/\(-9223372036854775808<=u3+1/\u3+1<=9223372036854775807)/\1<=1/\(0<=u3/\u3<u2)/\1<=1/\(∀(hp:List AObj) (g:R.σ),true=true/\Does Tryd.prog R 79 [ac O.l k] hp g (ret (int u64 (↑(2^(O.l.getD k 0).toNat):Int))) hp g)/\(true=true/\Does Tryd.prog R 78 [int i64 (u3+1),int u64 (IntKind.wrap u64 (↑(BitVec.toNat (BitVec.ofInt 64 (s:Int)|||BitVec.ofInt 64 (↑(2^(O.l.getD k 0).toNat):Int))):Int)),ref 0 0,ref 1 0,ref 2 0,ref 3 0,ref 4 0] u1 g (ret (tup 0 (nth []))) u1 g)/\Q AEx.normal (St.mk [] u1 g))/\(decide (u3<u2)=false->Wp Tryd.prog R 47 6 Rd.top (ax Tryd.prog 78) [0,1,1,1,1] (aP Tryd.prog R 47 6 Rd.top (ax Tryd.prog 78) Q [Kont.blk 0]) (St.mk [(0,int i64 u3),(1,int u64 (s:Int)),(2,ref 0 0),(4,ref 2 0),(5,ref 3 0),(6,ref 4 0),(14,AV.bool (decide (u3<u2)))] u1 g)))) ((m:Int)==(most:Int))) ((k:Int))) ((O.l.length:Int))) ([cells false 1 fun (x:Nat)=>ow true 5 m 1,cells false 1 fun (x:Nat)=>int i64 (most:Int),cells false 1 fun (x:Nat)=>fz O.2 1 (O.l.length) fun (i x:Nat)=>ac O.l i,cells false 1 fun (x:Nat)=>fn 78 0 (nth []) 5 (nth [ref 0 0,ref 1 0,ref 2 0,ref 3 0,ref 4 0]),cells false 2 (nth [int i64 p.atoms,af p.rules]),cells false (m*1) fun (a:Nat)=>fz Fz.auto 1 ((ak (L.getD a 0)).l.length) fun (i x:Nat)=>ac (ak (L.getD a 0)).l i])) (fun _=>by kernel_rfl) ⟨by omega,by omega,fun hcc=>(nomatch (hz.symm.trans hcc)),fun _=>⟨by omega,fun _=>⟨by omega,by omega,⟨rfl,(i1 _ _)⟩,by kernel_rfl,by omega,by omega,by omega,by omega,by omega,(fun _ _=>⟨rfl,(dV _ _ (by omega) _ _)⟩),⟨rfl,(i2 _ _)⟩,?_⟩,fun hcc=>(nomatch (hb.symm.trans hcc))⟩⟩
   refine(aq (aU _ _ rfl trivial rfl rfl rfl) (zT _))
 ·intro R _ s m m' L L' g hs hL hmL hmm h hm' hne
  rw[e0] at h
  have h0:0<m:=by rw[hmL];exact List.length_pos_iff.2 hL
  have hf:¬m=most:=fun e=>by
   rw[if_pos (by omega)] at h
   subst h
   omega
  have hz:((m:Int)==(most:Int))=false:=by rw[beq_eq_false_iff_ne];omega
  rw[if_neg (by omega)] at h
  obtain⟨t,ht⟩:∃t,s|||2^(O.l.getD k 0).toNat=t:=⟨_,rfl⟩
  have ht24:t<2^24:=by rw[<-ht];exact hor24 s hs
  have hoS:=(hor s hs).trans (congrArg (fun n:Nat=>(n:Int)) ht)
  rw[ht] at h
  have hlen:=eK (p:=p) (most:=most) (r:=r) (s:=s) (out:=L) (by omega)
  obtain⟨L1,hL1⟩:∃L1,stF p most r s L=L1:=⟨_,rfl⟩
  obtain⟨m1,hm1⟩:∃m1,m1=L1.length:=⟨_,rfl⟩
  rw[hL1] at h hlen
  have hlen2:=eK (p:=p) (most:=most) (r:=r) (s:=t) (out:=L1) hlen.2.1
  rw[h] at hlen2
  have h01:0<m1:=by omega
  have h0':0<m':=by omega
  have hmm1:m1<=most:=by omega
  have hmm':m'<=most:=by omega
  have hL1n:L1≠[]:=List.length_pos_iff.1 (by omega)
  by_cases e1:m=m1
  ·have hLL:L1=L:=hlen.2.2 (by omega)
   subst hLL
   have i1:=fun (R:Res) [Tab LT R] (g:R.σ)=>ih.on R s m L1 g hs hL hmL hmm hL1
   have i2:∀(R:Res) [Tab LT R] (g:R.σ),Does Tryd.prog R 78 [.int .i64 ((k:Int)+1),.int .u64 (IntKind.u64.wrap ((BitVec.ofInt 64 (s:Int)|||BitVec.ofInt 64 ((2^(O.l.getD k 0).toNat:Nat):Int)).toNat:Int)),.ref 0 0,.ref 1 0,.ref 2 0,.ref 3 0,.ref 4 0] [.cells false 1 (fun _=>.ow true 5 m 1),.cells false 1 (fun _=>.int .i64 most),.cells false 1 (fun _=>ah O),.cells false 1 (fun _=>.fn 78 0 (nth []) 5 (nth [.ref 0 0,.ref 1 0,.ref 2 0,.ref 3 0,.ref 4 0])),.cells false 2 (nth [.int .i64 p.atoms,af p.rules]),.cells false (m*1) (aH L1)] g (.ret (.tup 0 (nth []))) [.cells false 1 (fun _=>.ow true 6 m' 1),.cells false 1 (fun _=>.int .i64 most),.cells false 1 (fun _=>ah O),.cells false 1 (fun _=>.fn 78 0 (nth []) 5 (nth [.ref 0 0,.ref 1 0,.ref 2 0,.ref 3 0,.ref 4 0])),.cells false 2 (nth [.int .i64 p.atoms,af p.rules]),.dead,.cells false (m'*1) (aH L')] g:=fun R _ g=>by rw[hoS];exact ih.ow R t m m' L1 L' g ht24 hL hmL hmm h hm' hne
   refine dF (nt:=47) (rs:=[]) (k0:=6) (by kernel_rfl) (by kernel_rfl) (by kernel_rfl) rfl ?_
   refine vcQ [[0,1,0],[0,1,1,1,1]] (lkL [(0,[0,1,2,4,5,6,9]),(1,[0,1,2,4,5,6,14]),(2,[0,1,4,5])]) (lkL [(2,[(4,ROrc.call (tup 0 (nth [])) [cells false 1 fun (x:Nat)=>ow true 5 m 1,cells false 1 fun (x:Nat)=>int i64 (most:Int),cells false 1 fun (x:Nat)=>ah O,cells false 1 fun (x:Nat)=>fn 78 0 (nth []) 5 (nth [ref 0 0,ref 1 0,ref 2 0,ref 3 0,ref 4 0]),cells false 2 (nth [int i64 p.atoms,af p.rules]),cells false (m*1) (aH L1)] g)]),(3,[(8,ROrc.pcall (int u64 (↑(2^(O.l.getD k 0).toNat):Int))),(10,ROrc.callN (tup 0 (nth [])) [(0,cells false 1 fun (x:Nat)=>ow true 6 m' 1),(2,cells false 1 fun (x:Nat)=>ah O),(5,dead)] [cells false (m'*1) (aH L')] g)])]) (fun Q=>(fun (u1:List AObj)=>(fun (u2:List AObj)=>(fun (u3:Int)=>(fun (u4:Int)=>(fun (u5:Bool)=>1<=1/\1<=1/\(u5=true->Wp Tryd.prog R 47 6 Rd.top (ax Tryd.prog 78) [0,1,0] (aP Tryd.prog R 47 6 Rd.top (ax Tryd.prog 78) Q [Kont.blk 0]) (St.mk [(0,int i64 u4),(1,int u64 (s:Int)),(2,ref 0 0),(4,ref 2 0),(5,ref 3 0),(6,ref 4 0),(9,AV.bool u5)] u1 g))/\(u5=false->1<=1/\(decide (u4<u3)=true->1<=1/\(-9223372036854775808<=u4+1/\u4+1<=9223372036854775807)/\(true=true/\Does Tryd.prog R 78 [int i64 (u4+1),int u64 (s:Int),ref 0 0,ref 1 0,ref 2 0,ref 3 0,ref 4 0] u1 g (ret (tup 0 (nth []))) u1 g)/\Tables.follows Tryd.prog.toTables Departure.mixedOrders=true/\1<=1/\(-9223372036854775808<=u4+1/\u4+1<=9223372036854775807)/\1<=1/\(0<=u4/\u4<u3)/\1<=1/\(∀(hp:List AObj) (g:R.σ),true=true/\Does Tryd.prog R 79 [ac O.l k] hp g (ret (int u64 (↑(2^(O.l.getD k 0).toNat):Int))) hp g)/\(true=true/\Does Tryd.prog R 78 [int i64 (u4+1),int u64 (IntKind.wrap u64 (↑(BitVec.toNat (BitVec.ofInt 64 (s:Int)|||BitVec.ofInt 64 (↑(2^(O.l.getD k 0).toNat):Int))):Int)),ref 0 0,ref 1 0,ref 2 0,ref 3 0,ref 4 0] u1 g (ret (tup 0 (nth []))) u2 g)/\Q AEx.normal (St.mk [] u2 g))/\(decide (u4<u3)=false->Wp Tryd.prog R 47 6 Rd.top (ax Tryd.prog 78) [0,1,1,1,1] (aP Tryd.prog R 47 6 Rd.top (ax Tryd.prog 78) Q [Kont.blk 0]) (St.mk [(0,int i64 u4),(1,int u64 (s:Int)),(2,ref 0 0),(4,ref 2 0),(5,ref 3 0),(6,ref 4 0),(14,AV.bool (decide (u4<u3)))] u1 g)))) ((m:Int)==(most:Int))) ((k:Int))) ((O.l.length:Int))) ([cells false 1 fun (x:Nat)=>ow true 6 m' 1,cells false 1 fun (x:Nat)=>int i64 (most:Int),cells false 1 fun (x:Nat)=>fz O.2 1 (O.l.length) fun (i x:Nat)=>ac O.l i,cells false 1 fun (x:Nat)=>fn 78 0 (nth []) 5 (nth [ref 0 0,ref 1 0,ref 2 0,ref 3 0,ref 4 0]),cells false 2 (nth [int i64 p.atoms,af p.rules]),dead,cells false (m'*1) fun (a:Nat)=>fz Fz.auto 1 ((ak (L'.getD a 0)).l.length) fun (i x:Nat)=>ac (ak (L'.getD a 0)).l i])) ([cells false 1 fun (x:Nat)=>ow true 5 m 1,cells false 1 fun (x:Nat)=>int i64 (most:Int),cells false 1 fun (x:Nat)=>fz O.2 1 (O.l.length) fun (i x:Nat)=>ac O.l i,cells false 1 fun (x:Nat)=>fn 78 0 (nth []) 5 (nth [ref 0 0,ref 1 0,ref 2 0,ref 3 0,ref 4 0]),cells false 2 (nth [int i64 p.atoms,af p.rules]),cells false (m*1) fun (a:Nat)=>fz Fz.auto 1 ((ak (L1.getD a 0)).l.length) fun (i x:Nat)=>ac (ak (L1.getD a 0)).l i])) (fun _=>by kernel_rfl) ⟨by omega,by omega,fun hcc=>(nomatch (hz.symm.trans hcc)),fun _=>⟨by omega,fun _=>⟨by omega,by omega,⟨rfl,(i1 _ _)⟩,by kernel_rfl,by omega,by omega,by omega,by omega,by omega,(fun _ _=>⟨rfl,(dV _ _ (by omega) _ _)⟩),⟨rfl,(i2 _ _)⟩,?_⟩,fun hcc=>(nomatch (hb.symm.trans hcc))⟩⟩
   refine(aq (aU _ _ rfl trivial rfl rfl rfl) (zT _))
  ·have i1:=fun (R:Res) [Tab LT R] (g:R.σ)=>ih.ow R s m m1 L L1 g hs hL hmL hmm hL1 hm1 e1
   by_cases e2:m1=m'
   ·have hLL:L'=L1:=hlen2.2.2 (by omega)
    subst hLL
    subst e2
    have i2:∀(R:Res) [Tab LT R] (g:R.σ),Does Tryd.prog R 78 [.int .i64 ((k:Int)+1),.int .u64 (IntKind.u64.wrap ((BitVec.ofInt 64 (s:Int)|||BitVec.ofInt 64 ((2^(O.l.getD k 0).toNat:Nat):Int)).toNat:Int)),.ref 0 0,.ref 1 0,.ref 2 0,.ref 3 0,.ref 4 0] [.cells false 1 (fun _=>.ow true 5 m1 1),.cells false 1 (fun _=>.int .i64 most),.cells false 1 (fun _=>ah O),.cells false 1 (fun _=>.fn 78 0 (nth []) 5 (nth [.ref 0 0,.ref 1 0,.ref 2 0,.ref 3 0,.ref 4 0])),.cells false 2 (nth [.int .i64 p.atoms,af p.rules]),.cells false (m1*1) (aH L')] g (.ret (.tup 0 (nth []))) [.cells false 1 (fun _=>.ow true 5 m1 1),.cells false 1 (fun _=>.int .i64 most),.cells false 1 (fun _=>ah O),.cells false 1 (fun _=>.fn 78 0 (nth []) 5 (nth [.ref 0 0,.ref 1 0,.ref 2 0,.ref 3 0,.ref 4 0])),.cells false 2 (nth [.int .i64 p.atoms,af p.rules]),.cells false (m1*1) (aH L')] g:=fun R _ g=>by rw[hoS];exact ih.on R t m1 L' g ht24 hL1n hm1 hmm1 h
    refine dF (nt:=47) (rs:=[]) (k0:=6) (by kernel_rfl) (by kernel_rfl) (by kernel_rfl) rfl ?_
    refine vcQ [[0,1,0],[0,1,1,1,1]] (lkL [(0,[0,1,2,4,5,6,9]),(1,[0,1,2,4,5,6,14]),(2,[0,1,4,5])]) (lkL [(2,[(4,ROrc.call (tup 0 (nth [])) [cells false 1 fun (x:Nat)=>ow true 6 m1 1,cells false 1 fun (x:Nat)=>int i64 (most:Int),cells false 1 fun (x:Nat)=>ah O,cells false 1 fun (x:Nat)=>fn 78 0 (nth []) 5 (nth [ref 0 0,ref 1 0,ref 2 0,ref 3 0,ref 4 0]),cells false 2 (nth [int i64 p.atoms,af p.rules]),dead,cells false (m1*1) (aH L')] g)]),(3,[(8,ROrc.pcall (int u64 (↑(2^(O.l.getD k 0).toNat):Int))),(10,ROrc.kcall (tup 0 (nth [])))])]) (fun Q=>(fun (u1:List AObj)=>(fun (u2:List AObj)=>(fun (u3:Int)=>(fun (u4:Int)=>(fun (u5:Bool)=>1<=1/\1<=1/\(u5=true->Wp Tryd.prog R 47 6 Rd.top (ax Tryd.prog 78) [0,1,0] (aP Tryd.prog R 47 6 Rd.top (ax Tryd.prog 78) Q [Kont.blk 0]) (St.mk [(0,int i64 u4),(1,int u64 (s:Int)),(2,ref 0 0),(4,ref 2 0),(5,ref 3 0),(6,ref 4 0),(9,AV.bool u5)] u2 g))/\(u5=false->1<=1/\(decide (u4<u3)=true->1<=1/\(-9223372036854775808<=u4+1/\u4+1<=9223372036854775807)/\(true=true/\Does Tryd.prog R 78 [int i64 (u4+1),int u64 (s:Int),ref 0 0,ref 1 0,ref 2 0,ref 3 0,ref 4 0] u2 g (ret (tup 0 (nth []))) u1 g)/\Tables.follows Tryd.prog.toTables Departure.mixedOrders=true/\1<=1/\(-9223372036854775808<=u4+1/\u4+1<=9223372036854775807)/\1<=1/\(0<=u4/\u4<u3)/\1<=1/\(∀(hp:List AObj) (g:R.σ),true=true/\Does Tryd.prog R 79 [ac O.l k] hp g (ret (int u64 (↑(2^(O.l.getD k 0).toNat):Int))) hp g)/\(true=true/\Does Tryd.prog R 78 [int i64 (u4+1),int u64 (IntKind.wrap u64 (↑(BitVec.toNat (BitVec.ofInt 64 (s:Int)|||BitVec.ofInt 64 (↑(2^(O.l.getD k 0).toNat):Int))):Int)),ref 0 0,ref 1 0,ref 2 0,ref 3 0,ref 4 0] u1 g (ret (tup 0 (nth []))) u1 g)/\Q AEx.normal (St.mk [] u1 g))/\(decide (u4<u3)=false->Wp Tryd.prog R 47 6 Rd.top (ax Tryd.prog 78) [0,1,1,1,1] (aP Tryd.prog R 47 6 Rd.top (ax Tryd.prog 78) Q [Kont.blk 0]) (St.mk [(0,int i64 u4),(1,int u64 (s:Int)),(2,ref 0 0),(4,ref 2 0),(5,ref 3 0),(6,ref 4 0),(14,AV.bool (decide (u4<u3)))] u2 g)))) ((m:Int)==(most:Int))) ((k:Int))) ((O.l.length:Int))) ([cells false 1 fun (x:Nat)=>ow true 5 m 1,cells false 1 fun (x:Nat)=>int i64 (most:Int),cells false 1 fun (x:Nat)=>fz O.2 1 (O.l.length) fun (i x:Nat)=>ac O.l i,cells false 1 fun (x:Nat)=>fn 78 0 (nth []) 5 (nth [ref 0 0,ref 1 0,ref 2 0,ref 3 0,ref 4 0]),cells false 2 (nth [int i64 p.atoms,af p.rules]),cells false (m*1) fun (a:Nat)=>fz Fz.auto 1 ((ak (L.getD a 0)).l.length) fun (i x:Nat)=>ac (ak (L.getD a 0)).l i])) ([cells false 1 fun (x:Nat)=>ow true 6 m1 1,cells false 1 fun (x:Nat)=>int i64 (most:Int),cells false 1 fun (x:Nat)=>fz O.2 1 (O.l.length) fun (i x:Nat)=>ac O.l i,cells false 1 fun (x:Nat)=>fn 78 0 (nth []) 5 (nth [ref 0 0,ref 1 0,ref 2 0,ref 3 0,ref 4 0]),cells false 2 (nth [int i64 p.atoms,af p.rules]),dead,cells false (m1*1) fun (a:Nat)=>fz Fz.auto 1 ((ak (L'.getD a 0)).l.length) fun (i x:Nat)=>ac (ak (L'.getD a 0)).l i])) (fun _=>by kernel_rfl) ⟨by omega,by omega,fun hcc=>(nomatch (hz.symm.trans hcc)),fun _=>⟨by omega,fun _=>⟨by omega,by omega,⟨rfl,(i1 _ _)⟩,by kernel_rfl,by omega,by omega,by omega,by omega,by omega,(fun _ _=>⟨rfl,(dV _ _ (by omega) _ _)⟩),⟨rfl,(ef (T:=LT) inferInstance [0,1,2,3,4,6] 7 (fun R _ g=>i2 R g) rfl rfl rfl (by exact⟨⟨rfl,Nat.le_refl _,fun j hj=>match j,hj with|0,_=>(zT _) ⟩,⟨rfl,Nat.le_refl _,fun j hj=>match j,hj with|0,_=>(zT _) ⟩,⟨rfl,Nat.le_refl _,fun j hj=>match j,hj with|0,_=>(zT _) ⟩,⟨rfl,Nat.le_refl _,fun j hj=>match j,hj with|0,_=>(Le.fn (fun i hi=>absurd hi (by omega)) (fun i hi=>match i,hi with|0,_=>(zT _)|1,_=>(zT _)|2,_=>(zT _)|3,_=>(zT _)|4,_=>(zT _) )) ⟩,⟨rfl,Nat.le_refl _,fun j hj=>match j,hj with|0,_=>(zT _)|1,_=>(zT _) ⟩,⟨rfl,Nat.le_refl _,fun j hj=>(by first|exact bk (by first|exact trivial|apply fF)|exact zU (gA rfl).symm)⟩,trivial⟩) (by exact⟨by omega,by omega,by omega,by omega,by omega,by omega,trivial⟩) (by exact⟨bk (by exact trivial),bk (by exact trivial),zT _,zT _,zT _,zT _,zT _,trivial⟩) (by exact bC (by exact trivial)) (by exact⟨⟨rfl,Nat.le_refl _,fun j hj=>match j,hj with|0,_=>(zT _) ⟩,⟨rfl,Nat.le_refl _,fun j hj=>match j,hj with|0,_=>(zT _) ⟩,⟨rfl,Nat.le_refl _,fun j hj=>match j,hj with|0,_=>(zT _) ⟩,⟨rfl,Nat.le_refl _,fun j hj=>match j,hj with|0,_=>(Le.fn (fun i hi=>absurd hi (by omega)) (fun i hi=>match i,hi with|0,_=>(zT _)|1,_=>(zT _)|2,_=>(zT _)|3,_=>(zT _)|4,_=>(zT _) )) ⟩,⟨rfl,Nat.le_refl _,fun j hj=>match j,hj with|0,_=>(zT _)|1,_=>(zT _) ⟩,trivial,⟨rfl,Nat.le_refl _,fun j hj=>(by first|exact bC (by first|exact trivial|apply fF)|exact zU (gA rfl))⟩,trivial⟩))⟩,?_⟩,fun hcc=>(nomatch (hb.symm.trans hcc))⟩⟩
    refine(aq (aU _ _ rfl trivial rfl rfl rfl) (zT _))
   ·have i2:∀(R:Res) [Tab LT R] (g:R.σ),Does Tryd.prog R 78 [.int .i64 ((k:Int)+1),.int .u64 (IntKind.u64.wrap ((BitVec.ofInt 64 (s:Int)|||BitVec.ofInt 64 ((2^(O.l.getD k 0).toNat:Nat):Int)).toNat:Int)),.ref 0 0,.ref 1 0,.ref 2 0,.ref 3 0,.ref 4 0] [.cells false 1 (fun _=>.ow true 5 m1 1),.cells false 1 (fun _=>.int .i64 most),.cells false 1 (fun _=>ah O),.cells false 1 (fun _=>.fn 78 0 (nth []) 5 (nth [.ref 0 0,.ref 1 0,.ref 2 0,.ref 3 0,.ref 4 0])),.cells false 2 (nth [.int .i64 p.atoms,af p.rules]),.cells false (m1*1) (aH L1)] g (.ret (.tup 0 (nth []))) [.cells false 1 (fun _=>.ow true 6 m' 1),.cells false 1 (fun _=>.int .i64 most),.cells false 1 (fun _=>ah O),.cells false 1 (fun _=>.fn 78 0 (nth []) 5 (nth [.ref 0 0,.ref 1 0,.ref 2 0,.ref 3 0,.ref 4 0])),.cells false 2 (nth [.int .i64 p.atoms,af p.rules]),.dead,.cells false (m'*1) (aH L')] g:=fun R _ g=>by rw[hoS];exact ih.ow R t m1 m' L1 L' g ht24 hL1n hm1 hmm1 h hm' e2
    refine dF (nt:=47) (rs:=[]) (k0:=6) (by kernel_rfl) (by kernel_rfl) (by kernel_rfl) rfl ?_
    refine vcQ [[0,1,0],[0,1,1,1,1]] (lkL [(0,[0,1,2,4,5,6,9]),(1,[0,1,2,4,5,6,14]),(2,[0,1,4,5])]) (lkL [(2,[(4,ROrc.call (tup 0 (nth [])) [cells false 1 fun (x:Nat)=>ow true 6 m1 1,cells false 1 fun (x:Nat)=>int i64 (most:Int),cells false 1 fun (x:Nat)=>ah O,cells false 1 fun (x:Nat)=>fn 78 0 (nth []) 5 (nth [ref 0 0,ref 1 0,ref 2 0,ref 3 0,ref 4 0]),cells false 2 (nth [int i64 p.atoms,af p.rules]),dead,cells false (m1*1) (aH L1)] g)]),(3,[(8,ROrc.pcall (int u64 (↑(2^(O.l.getD k 0).toNat):Int))),(10,ROrc.callN (tup 0 (nth [])) [(0,cells false 1 fun (j:Nat)=>ow true 7 m' 1),(6,dead)] [cells false (m'*1) (aH L')] g)])]) (fun Q=>(fun (u1:List AObj)=>(fun (u2:List AObj)=>(fun (u3:List AObj)=>(fun (u4:Int)=>(fun (u5:Int)=>(fun (u6:Bool)=>1<=1/\1<=1/\(u6=true->Wp Tryd.prog R 47 6 Rd.top (ax Tryd.prog 78) [0,1,0] (aP Tryd.prog R 47 6 Rd.top (ax Tryd.prog 78) Q [Kont.blk 0]) (St.mk [(0,int i64 u5),(1,int u64 (s:Int)),(2,ref 0 0),(4,ref 2 0),(5,ref 3 0),(6,ref 4 0),(9,AV.bool u6)] u1 g))/\(u6=false->1<=1/\(decide (u5<u4)=true->1<=1/\(-9223372036854775808<=u5+1/\u5+1<=9223372036854775807)/\(true=true/\Does Tryd.prog R 78 [int i64 (u5+1),int u64 (s:Int),ref 0 0,ref 1 0,ref 2 0,ref 3 0,ref 4 0] u1 g (ret (tup 0 (nth []))) u3 g)/\Tables.follows Tryd.prog.toTables Departure.mixedOrders=true/\1<=1/\(-9223372036854775808<=u5+1/\u5+1<=9223372036854775807)/\1<=1/\(0<=u5/\u5<u4)/\1<=1/\(∀(hp:List AObj) (g:R.σ),true=true/\Does Tryd.prog R 79 [ac O.l k] hp g (ret (int u64 (↑(2^(O.l.getD k 0).toNat):Int))) hp g)/\(true=true/\Does Tryd.prog R 78 [int i64 (u5+1),int u64 (IntKind.wrap u64 (↑(BitVec.toNat (BitVec.ofInt 64 (s:Int)|||BitVec.ofInt 64 (↑(2^(O.l.getD k 0).toNat):Int))):Int)),ref 0 0,ref 1 0,ref 2 0,ref 3 0,ref 4 0] u3 g (ret (tup 0 (nth []))) u2 g)/\Q AEx.normal (St.mk [] u2 g))/\(decide (u5<u4)=false->Wp Tryd.prog R 47 6 Rd.top (ax Tryd.prog 78) [0,1,1,1,1] (aP Tryd.prog R 47 6 Rd.top (ax Tryd.prog 78) Q [Kont.blk 0]) (St.mk [(0,int i64 u5),(1,int u64 (s:Int)),(2,ref 0 0),(4,ref 2 0),(5,ref 3 0),(6,ref 4 0),(14,AV.bool (decide (u5<u4)))] u1 g)))) ((m:Int)==(most:Int))) ((k:Int))) ((O.l.length:Int))) ([cells false 1 fun (x:Nat)=>ow true 6 m1 1,cells false 1 fun (x:Nat)=>int i64 (most:Int),cells false 1 fun (x:Nat)=>fz O.2 1 (O.l.length) fun (i x:Nat)=>ac O.l i,cells false 1 fun (x:Nat)=>fn 78 0 (nth []) 5 (nth [ref 0 0,ref 1 0,ref 2 0,ref 3 0,ref 4 0]),cells false 2 (nth [int i64 p.atoms,af p.rules]),dead,cells false (m1*1) fun (a:Nat)=>fz Fz.auto 1 ((ak (L1.getD a 0)).l.length) fun (i x:Nat)=>ac (ak (L1.getD a 0)).l i])) ([cells false 1 fun (j:Nat)=>ow true 7 m' 1,cells false 1 fun (x:Nat)=>int i64 (most:Int),cells false 1 fun (x:Nat)=>fz O.2 1 (O.l.length) fun (i x:Nat)=>ac O.l i,cells false 1 fun (x:Nat)=>fn 78 0 (nth []) 5 (nth [ref 0 0,ref 1 0,ref 2 0,ref 3 0,ref 4 0]),cells false 2 (nth [int i64 p.atoms,af p.rules]),dead,dead,cells false (m'*1) fun (a:Nat)=>fz Fz.auto 1 ((ak (L'.getD a 0)).l.length) fun (i x:Nat)=>ac (ak (L'.getD a 0)).l i])) ([cells false 1 fun (x:Nat)=>ow true 5 m 1,cells false 1 fun (x:Nat)=>int i64 (most:Int),cells false 1 fun (x:Nat)=>fz O.2 1 (O.l.length) fun (i x:Nat)=>ac O.l i,cells false 1 fun (x:Nat)=>fn 78 0 (nth []) 5 (nth [ref 0 0,ref 1 0,ref 2 0,ref 3 0,ref 4 0]),cells false 2 (nth [int i64 p.atoms,af p.rules]),cells false (m*1) fun (a:Nat)=>fz Fz.auto 1 ((ak (L.getD a 0)).l.length) fun (i x:Nat)=>ac (ak (L.getD a 0)).l i])) (fun _=>by kernel_rfl) ⟨by omega,by omega,fun hcc=>(nomatch (hz.symm.trans hcc)),fun _=>⟨by omega,fun _=>⟨by omega,by omega,⟨rfl,(i1 _ _)⟩,by kernel_rfl,by omega,by omega,by omega,by omega,by omega,(fun _ _=>⟨rfl,(dV _ _ (by omega) _ _)⟩),⟨rfl,(ef (T:=LT) inferInstance [0,1,2,3,4,6] 7 (fun R _ g=>i2 R g) rfl rfl rfl (by exact⟨⟨rfl,Nat.le_refl _,fun j hj=>match j,hj with|0,_=>(zT _) ⟩,⟨rfl,Nat.le_refl _,fun j hj=>match j,hj with|0,_=>(zT _) ⟩,⟨rfl,Nat.le_refl _,fun j hj=>match j,hj with|0,_=>(zT _) ⟩,⟨rfl,Nat.le_refl _,fun j hj=>match j,hj with|0,_=>(Le.fn (fun i hi=>absurd hi (by omega)) (fun i hi=>match i,hi with|0,_=>(zT _)|1,_=>(zT _)|2,_=>(zT _)|3,_=>(zT _)|4,_=>(zT _) )) ⟩,⟨rfl,Nat.le_refl _,fun j hj=>match j,hj with|0,_=>(zT _)|1,_=>(zT _) ⟩,⟨rfl,Nat.le_refl _,fun j hj=>(by first|exact bk (by first|exact trivial|apply fF)|exact zU (gA rfl).symm)⟩,trivial⟩) (by exact⟨by omega,by omega,by omega,by omega,by omega,by omega,trivial⟩) (by exact⟨bk (by exact trivial),bk (by exact trivial),zT _,zT _,zT _,zT _,zT _,trivial⟩) (by exact bC (by exact trivial)) (by exact⟨zV,⟨rfl,Nat.le_refl _,fun j hj=>match j,hj with|0,_=>(zT _) ⟩,⟨rfl,Nat.le_refl _,fun j hj=>match j,hj with|0,_=>(zT _) ⟩,⟨rfl,Nat.le_refl _,fun j hj=>match j,hj with|0,_=>(Le.fn (fun i hi=>absurd hi (by omega)) (fun i hi=>match i,hi with|0,_=>(zT _)|1,_=>(zT _)|2,_=>(zT _)|3,_=>(zT _)|4,_=>(zT _) )) ⟩,⟨rfl,Nat.le_refl _,fun j hj=>match j,hj with|0,_=>(zT _)|1,_=>(zT _) ⟩,trivial,trivial,⟨rfl,Nat.le_refl _,fun j hj=>(by first|exact bC (by first|exact trivial|apply fF)|exact zU (gA rfl))⟩,trivial⟩))⟩,?_⟩,fun hcc=>(nomatch (hb.symm.trans hcc))⟩⟩
    refine lP (.tup 0 (nth [])) _ rfl trivial ?_
    refine ed [0,1,2,3,4,5,7] 8 ?_ ?_ ?_ ?_ ?_ ?_ ?_
    ·rfl
    ·rfl
    ·rfl
    ·rfl
    ·rfl
    ·exact⟨zT _,trivial⟩
    ·exact⟨⟨rfl,Nat.le_refl _,fun j hj=>zT _⟩,zW _,zW _,⟨rfl,Nat.le_refl _,fun j hj=>lQ⟩,⟨rfl,Nat.le_refl _,fun j hj=>match j,hj with|0,_=>zT _|1,_=>bk (by exact trivial)⟩,trivial,⟨rfl,Nat.le_refl _,fun j hj=>zT _⟩,trivial⟩
def dZ (p:Prg):Nat:=aC (al p).2 3 p.atoms.toNat
def gU (p:Prg):Nat:=aC (al p).2 2 p.atoms.toNat
def stP (p:Prg)(most:Nat):List Nat:=stF p most (bB (dZ p)) (gU p) []
theorem ou {p:Prg}{most:Nat}{O:KL Int}(hm:1<=most/\most<=100)(hO:O.l.length<=10)(hOa:∀a,a∈O.l->0<=a/\a<24)(hl:p.rules.l.length<1000000)(hr:∀r,r∈p.rules.l->aK r):∀(j k:Nat),k+j=O.l.length->FromC p most O (O.l.drop k) (k:Int)
 |0,k,h=>by
  have hk:k=O.l.length:=by omega
  subst hk
  rw[List.drop_length]
  exact yW hm hO hl hr
 |j+1,k,h=>by
  rw[gD O.l 0 (show k<O.l.length by omega)]
  exact yX hm hO omg (hOa _ (bQ O.l 0 omg)) (ou hm hO hOa hl hr j (k+1) omg)
theorem sx {s:Nat}:∀a,a∈(ak s).l->0<=a/\a<24:=by
 intro a ha
 obtain⟨b,hb,rfl⟩:=List.mem_map.1 (show a∈(ai s).map (fun (a:Nat)=>(a:Int)) from ha)
 have:=jN hb
 omega
theorem yY (R:Res)[Tab LT R](p:Prg)(most:Nat)(hb:aJ p=true)(hm:1<=most/\most<=100)(hO:(bB (dZ p)).length<=10)(hN:stP p most=[])(g:R.σ):Does Tryd.prog R 27 [av p,.int .i64 most] [] g (.ret (.tup 2 (nth [.fz .nil 0 0 (fun _ _=>.any),.int .i64 0]))) [] g:=by
 obtain⟨hl,hr,hp,hh,hx⟩:=ff hb
 have hs:eh p:=gM hb
 have hp':1<=p.atoms/\p.atoms<=24:=hp
 have hc:(bif ((if aJ p then(0:Int) else 2) != 0) then true else !decide (1<=(most:Int)/\(most:Int)<=100))=false:=by
  rw[hb,decide_eq_true (by omega)]
  rfl
 have hD:=fun (R:Res) [Tab LT R] (g:R.σ)=>nZ R p hl hr hp hh g
 have hC:=fun (R:Res) [Tab LT R] (s:Nat) (hs:s<2^24) (g:R.σ)=>jU R s hs g
 have hlt:aC (al p).2 3 p.atoms.toNat<2^24:=jO (by omega)
 have hS:=fun (R:Res) (g:R.σ)=>lO R (al p).2 p.atoms 3 (by omega) g
 have hS2:=fun (R:Res) (g:R.σ)=>lO R (al p).2 p.atoms 2 (by omega) g
 have hgt:decide ((10:Int)<((ak (aC (al p).2 3 p.atoms.toNat)).l.length:Int))=false:=decide_eq_false (by
  have hO:(ak (aC (al p).2 3 p.atoms.toNat)).l.length<=10:=hO
  omega)
 have hF0:=(ou (p:=p) (most:=most) (O:=ak (dZ p)) hm hO sx hl hr (ak (dZ p)).l.length 0 (by omega)).nn
 rw[List.drop_zero] at hF0
 have hF:=fun (R:Res) [Tab LT R] (g:R.σ)=>hF0 R (gU p) g (jO (by omega)) hN
 unfold gU dZ at hF
 clear hF0
 refine dF (nt:=45) (rs:=[.tmp 4,.tmp 5]) (k0:=0) (by kernel_rfl) (by kernel_rfl) (by kernel_rfl) rfl ?_
 refine vcQ [[1,0,1,0],[1,1,1,1,0,1,0]] (lkL [(0,[2,3]),(1,[2,3,18]),(3,[2,3,7]),(4,[2,3,7,8]),(5,[2,3,7,8,34]),(7,[2,3,7,8,9]),(8,[2,3,7,8,9,10]),(9,[2,7,9,10]),(10,[9]),(11,[4,5])]) (lkL [(1,[(1,ROrc.pcall (int i64 (if aJ p=true then 0 else 2))),(5,ROrc.pcall (AV.bool (decide (1<=(most:Int)/\(most:Int)<=100))))]),(3,[(1,ROrc.call (tup 2 (nth [fz Fz.auto 2 ((bN (al p).fst).l.length) fun (i:Nat)=>e8 ((bN (al p).fst).l.getD i default),ref 2 0])) [cells false 2 (nth [int i64 p.atoms,af p.rules]),cells false 1 fun (a:Nat)=>int i64 (most:Int),cells false 27 (aI (al p).snd)] g)]),(4,[(5,ROrc.lcall (int u64 (↑(aC (al p).snd 3 (p.atoms.toNat)):Int)) [2]),(6,ROrc.callN (fn 105 0 (nth []) 1 (nth [ref (List.length [cells false 2 (nth [int i64 p.atoms,af p.rules]),cells false 1 fun (a:Nat)=>int i64 (most:Int),cells false 27 (aI (al p).snd)]) 0])) [] [cells false 1 fun (x:Nat)=>int u64 (↑(aC (al p).snd 3 (p.atoms.toNat)):Int)] g),(7,ROrc.callS (fz Fz.auto 1 ((ak (aC (al p).snd 3 (p.atoms.toNat))).l.length) fun (i x:Nat)=>ac (ak (aC (al p).snd 3 (p.atoms.toNat))).l i) [(3,cells false 1 fun (j:Nat)=>any)] g),(9,ROrc.val (Orc.obj (nth [fz Fz.auto 1 ((ak (aC (al p).snd 3 (p.atoms.toNat))).l.length) fun (i x:Nat)=>ac (ak (aC (al p).snd 3 (p.atoms.toNat))).l i])))]),(9,[(1,ROrc.val (Orc.obj (nth [fn 78 0 (nth []) 5 (nth [ref 5 0,ref 1 0,ref 4 0,ref 6 0,ref 0 0])])))]),(10,[(6,ROrc.lcall (int u64 (↑(aC (al p).snd 2 (p.atoms.toNat)):Int)) [2]),(7,ROrc.kcall (tup 0 (nth [])))])]) (fun Q=>(fun (u1:List AObj)=>(fun (u2:Nat)=>(fun (u3:Int)=>(fun (u4:AObj)=>(fun (u5:AObj)=>(fun (u6:AV)=>(fun (u7:AObj)=>(fun (u8:Bool)=>(fun (u9:Int)=>(fun (u10:List AV)=>(fun (u11:AV)=>(fun (u12:List AObj)=>(fun (u13:Int)=>2<=2/\(∀(hp:List AObj) (g:R.σ),true=true/\Does Tryd.prog R 16 [av p] hp g (ret (int i64 u13)) hp g)/\((!u13 != 0)=true->1<=1)/\((!u13 != 0)=true->∀(hp:List AObj) (g:R.σ),true=true/\Does Tryd.prog R 58 [int i64 u3,int i64 1,int i64 100] hp g (ret (AV.bool (decide (1<=u3/\u3<=100)))) hp g)/\(u8=true->Wp Tryd.prog R 45 0 Rd.top (ax Tryd.prog 27) [1,0,1,0] (aP Tryd.prog R 45 0 Rd.top (ax Tryd.prog 27) Q [Kont.seq [1,1]]) (St.mk [(2,ref 0 0),(3,ref 1 0),(18,AV.bool u8)] [u4,u5] g))/\(u8=false->2<=2/\(true=true/\Does Tryd.prog R 60 [av p] [u4,u5] g (ret (tup 2 (nth [fz Fz.auto 2 ((bN (al p).fst).l.length) fun (i:Nat)=>e8 ((bN (al p).fst).l.getD i default),ref 2 0]))) [u4,u5,u7] g)/\Tables.follows Tryd.prog.toTables Departure.mixedOrders=true/\1<=2/\(∀(hp':List AObj) (g':R.σ),SameO [2] [u4,u5,u7] hp'->true=true/\Does Tryd.prog R 76 [ref 2 2,int i64 p.atoms,int i64 3] hp' g' (ret (int u64 (u2:Int))) hp' g')/\(true=true/\Does Tryd.prog R 77 [int u64 (u2:Int)] [u4,u5,u7] g (ret (fn 105 0 (nth []) 1 (nth [ref 3 0]))) u12 g)/\(true=true/\Does Tryd.prog R 75 [fn 105 0 (nth []) 1 (nth [ref 3 0])] u12 g (ret u6) [u4,u5,u7,cells false 1 fun (j:Nat)=>any] g)/\1<=1/\(∀(c:Nat),c<1->nth [u6] c=aj (fun (a:Nat)=>fz Fz.nil 0 0 fun _ _=>any) 0 1 (fun (x:Nat)=>u6) c)/\1<=1/\(decide (u9 > 10)=true->Wp Tryd.prog R 45 0 Rd.top (ax Tryd.prog 27) [1,1,1,1,0,1,0] (aP Tryd.prog R 45 0 Rd.top (ax Tryd.prog 27) Q [Kont.seq [1,1,1,1,1]]) (St.mk [(2,ref 0 0),(3,ref 1 0),(7,ref 2 0),(8,ref 4 0),(34,AV.bool (decide (u9 > 10)))] [u4,u5,u7,cells false 1 fun (j:Nat)=>any,cells false 1 (nth [u6])] g))/\(decide (u9 > 10)=false->1<=1/\(∀(c:Nat),c<1->nth [fn 78 0 (nth []) 5 (nth u10)] c=aj (fun (a:Nat)=>AV.nilf) 0 1 (fun (x:Nat)=>fn 78 0 (nth []) 5 (nth u10)) c)/\Tables.follows Tryd.prog.toTables Departure.mixedOrders=true/\1<=1/\1<=2/\(∀(hp':List AObj) (g':R.σ),SameO [2] u1 hp'->true=true/\Does Tryd.prog R 76 [ref 2 2,int i64 p.atoms,int i64 2] hp' g' (ret u11) hp' g')/\(true=true/\Does Tryd.prog R 78 (int i64 0::u11::u10) u1 g (ret (tup 0 (nth []))) u1 g)/\1<=1/\Q AEx.ret (St.mk [(4,fz Fz.nil 0 0 fun _ _=>any),(5,int i64 0)] u1 g)))) (if aJ p=true then 0 else 2)) ([u4,u5,u7,cells false 1 fun (x:Nat)=>int u64 (u2:Int)])) (int u64 (↑(aC (al p).snd 2 (p.atoms.toNat)):Int))) ([ref 5 0,ref 1 0,ref 4 0,ref 6 0,ref 0 0])) ((↑((ak u2).l.length):Int))) (bif (if aJ p=true then 0 else 2) != 0 then true else !decide (1<=u3/\u3<=100))) (cells false 27 (aI (al p).snd))) (fz Fz.auto 1 ((ak u2).l.length) fun (i x:Nat)=>ac (ak u2).l i)) (cells false 1 fun (a:Nat)=>int i64 u3)) (cells false 2 (nth [int i64 p.atoms,af p.rules]))) ((most:Int))) (aC (al p).snd 3 (p.atoms.toNat))) ([cells false 2 (nth [int i64 p.atoms,af p.rules]),cells false 1 fun (a:Nat)=>int i64 (most:Int),cells false 27 (aI (al p).snd),cells false 1 fun (j:Nat)=>any,cells false 1 (nth [fz Fz.auto 1 ((ak (aC (al p).snd 3 (p.atoms.toNat))).l.length) fun (i x:Nat)=>ac (ak (aC (al p).snd 3 (p.atoms.toNat))).l i]),cells false 1 fun (a:Nat)=>fz Fz.nil 0 0 fun _ _=>any,cells false 1 (nth [fn 78 0 (nth []) 5 (nth [ref 5 0,ref 1 0,ref 4 0,ref 6 0,ref 0 0])])])) (fun _=>by kernel_rfl) ⟨by omega,(fun _ _=>⟨rfl,(fZ _ _ _ _ (by omega))⟩),by omega,(fun hgd=>(fun _ _=>⟨rfl,(dv _ _ _ _ _ _)⟩)),fun hcc=>(nomatch (hc.symm.trans hcc)),fun _=>⟨by omega,⟨rfl,(ef (T:=LT) inferInstance [] 2 (fun R _ g=>hD R g) rfl rfl rfl (by exact trivial) (by exact trivial) (by exact⟨bk (by exact⟨⟨trivial,trivial⟩,trivial⟩),trivial⟩) (by exact(zX (fun i hi=>match i,hi with|0,_=>(zT _)|1,_=>(zT _) ))) (by exact⟨zV,zV,⟨rfl,Nat.le_refl _,fun j hj=>(by first|exact bC (by first|exact trivial|apply kY)|exact zU (dg rfl))⟩,trivial⟩))⟩,by kernel_rfl,by omega,?_,⟨rfl,(cK _ _ _ _)⟩,⟨rfl,(ef (T:=LT) inferInstance [3] 4 (fun R _ g=>hC R (aC (al p).snd 3 (p.atoms.toNat)) (by omega) g) rfl rfl rfl (by exact⟨⟨rfl,Nat.le_refl _,fun j hj=>match j,hj with|0,_=>(zT _) ⟩,trivial⟩) (by exact⟨by omega,trivial⟩) (by exact⟨(Le.fn (fun i hi=>absurd hi (by omega)) (fun i hi=>match i,hi with|0,_=>(zT _) )),trivial⟩) (by exact bC (by exact trivial)) (by exact⟨zV,zV,zV,zV,trivial⟩))⟩,by omega,(fun c hc=>match c,hc with|0,_=>(by kernel_rfl) ),by omega,fun hcc=>(nomatch (hgt.symm.trans hcc)),fun _=>⟨by omega,(fun c hc=>match c,hc with|0,_=>(by kernel_rfl) ),by kernel_rfl,by omega,by omega,?_,⟨rfl,(ef (T:=LT) inferInstance [5,1,4,6,0] 7 (fun R _ g=>hF R g) rfl rfl rfl (by exact⟨⟨rfl,Nat.le_refl _,fun j hj=>match j,hj with|0,_=>(zT _) ⟩,⟨rfl,Nat.le_refl _,fun j hj=>match j,hj with|0,_=>(zT _) ⟩,⟨rfl,Nat.le_refl _,fun j hj=>match j,hj with|0,_=>(zT _) ⟩,⟨rfl,Nat.le_refl _,fun j hj=>match j,hj with|0,_=>(Le.fn (fun i hi=>absurd hi (by omega)) (fun i hi=>match i,hi with|0,_=>(zT _)|1,_=>(zT _)|2,_=>(zT _)|3,_=>(zT _)|4,_=>(zT _) )) ⟩,⟨rfl,Nat.le_refl _,fun j hj=>match j,hj with|0,_=>(zT _)|1,_=>(zT _) ⟩,trivial⟩) (by exact⟨by omega,by omega,by omega,by omega,by omega,trivial⟩) (by exact⟨bk (by exact trivial),bk (by exact trivial),zT _,zT _,zT _,zT _,zT _,trivial⟩) (by exact bC (by exact trivial)) (by exact⟨⟨rfl,Nat.le_refl _,fun j hj=>match j,hj with|0,_=>(zT _)|1,_=>(zT _) ⟩,⟨rfl,Nat.le_refl _,fun j hj=>match j,hj with|0,_=>(zT _) ⟩,zV,zV,⟨rfl,Nat.le_refl _,fun j hj=>match j,hj with|0,_=>(zT _) ⟩,⟨rfl,Nat.le_refl _,fun j hj=>match j,hj with|0,_=>(zT _) ⟩,⟨rfl,Nat.le_refl _,fun j hj=>match j,hj with|0,_=>(Le.fn (fun i hi=>absurd hi (by omega)) (fun i hi=>match i,hi with|0,_=>(zT _)|1,_=>(zT _)|2,_=>(zT _)|3,_=>(zT _)|4,_=>(zT _) )) ⟩,trivial⟩))⟩,by omega,?_⟩⟩⟩
 ·intro hp' g' hs'
  exact⟨rfl,jx [2] (fun R g=>hS R g) (by exact⟨rfl,trivial⟩) rfl (by exact fun n=>⟨z4 (fun j hj=>(dg trivial).symm),trivial⟩) ⟨by omega,trivial⟩ (by exact fun n=>⟨zT _,zT _,zT _,trivial⟩) rfl (by exact fun n=>zT _) (by exact fun n=>⟨z4 (fun j hj=>dg trivial),trivial⟩) hp' g' hs'⟩
 ·intro hp' g' hs'
  exact⟨rfl,jx [2] (fun R g=>hS2 R g) (by exact⟨rfl,trivial⟩) rfl (by exact fun n=>⟨z4 (fun j hj=>(dg trivial).symm),trivial⟩) ⟨by omega,trivial⟩ (by exact fun n=>⟨zT _,zT _,zT _,trivial⟩) rfl (by exact fun n=>zT _) (by exact fun n=>⟨z4 (fun j hj=>dg trivial),trivial⟩) hp' g' hs'⟩
 ·refine(aq (bl _ _ rfl trivial ⟨⟨trivial,trivial⟩,trivial⟩ rfl) (zT _))
theorem yZ (R:Res)[Tab LT R](p:Prg)(most:Nat)(hb:aJ p=true)(hm:1<=most/\most<=100)(hO:(bB (dZ p)).length<=10)(hN:stP p most≠[])(g:R.σ):Does Tryd.prog R 27 [av p,.int .i64 most] [] g (.ret (.tup 2 (nth [dh (stP p most).length (fun i=>ak ((stP p most).getD i 0)),.int .i64 0]))) [] g:=by
 obtain⟨hl,hr,hp,hh,hx⟩:=ff hb
 have hs:eh p:=gM hb
 have hp':1<=p.atoms/\p.atoms<=24:=hp
 have hc:(bif ((if aJ p then(0:Int) else 2) != 0) then true else !decide (1<=(most:Int)/\(most:Int)<=100))=false:=by
  rw[hb,decide_eq_true (by omega)]
  rfl
 have hD:=fun (R:Res) [Tab LT R] (g:R.σ)=>nZ R p hl hr hp hh g
 have hC:=fun (R:Res) [Tab LT R] (s:Nat) (hs:s<2^24) (g:R.σ)=>jU R s hs g
 have hlt:aC (al p).2 3 p.atoms.toNat<2^24:=jO (by omega)
 have hS:=fun (R:Res) (g:R.σ)=>lO R (al p).2 p.atoms 3 (by omega) g
 have hS2:=fun (R:Res) (g:R.σ)=>lO R (al p).2 p.atoms 2 (by omega) g
 have hgt:decide ((10:Int)<((ak (aC (al p).2 3 p.atoms.toNat)).l.length:Int))=false:=decide_eq_false (by
  have hO:(ak (aC (al p).2 3 p.atoms.toNat)).l.length<=10:=hO
  omega)
 obtain⟨L,hL⟩:∃L,stP p most=L:=⟨_,rfl⟩
 rw[hL] at hN ⊢
 obtain⟨m,hm0⟩:∃m,m=L.length:=⟨_,rfl⟩
 have hmm:m<=100:=by
  have:=(eK (p:=p) (most:=most) (r:=bB (dZ p)) (s:=gU p) (out:=[]) (Nat.zero_le _)).2.1
  have hL':stF p most (bB (dZ p)) (gU p) []=L:=hL
  rw[hL'] at this
  omega
 have hF0:=(ou (p:=p) (most:=most) (O:=ak (dZ p)) hm hO sx hl hr (ak (dZ p)).l.length 0 (by omega)).nw
 rw[List.drop_zero] at hF0
 have hF:=fun (R:Res) [Tab LT R] (g:R.σ)=>hF0 R (gU p) m L g (jO (by omega)) hL hN hm0
 unfold gU dZ at hF
 clear hF0
 refine dF (nt:=45) (rs:=[.tmp 4,.tmp 5]) (k0:=0) (by kernel_rfl) (by kernel_rfl) (by kernel_rfl) rfl ?_
 refine vcQ [[1,0,1,0],[1,1,1,1,0,1,0]] (lkL [(0,[2,3]),(1,[2,3,18]),(3,[2,3,7]),(4,[2,3,7,8]),(5,[2,3,7,8,34]),(7,[2,3,7,8,9]),(8,[2,3,7,8,9,10]),(9,[2,7,9,10]),(10,[9]),(11,[4,5])]) (lkL [(1,[(1,ROrc.pcall (int i64 (if aJ p=true then 0 else 2))),(5,ROrc.pcall (AV.bool (decide (1<=(most:Int)/\(most:Int)<=100))))]),(3,[(1,ROrc.call (tup 2 (nth [fz Fz.auto 2 ((bN (al p).fst).l.length) fun (i:Nat)=>e8 ((bN (al p).fst).l.getD i default),ref 2 0])) [cells false 2 (nth [int i64 p.atoms,af p.rules]),cells false 1 fun (a:Nat)=>int i64 (most:Int),cells false 27 (aI (al p).snd)] g)]),(4,[(5,ROrc.lcall (int u64 (↑(aC (al p).snd 3 (p.atoms.toNat)):Int)) [2]),(6,ROrc.callN (fn 105 0 (nth []) 1 (nth [ref (List.length [cells false 2 (nth [int i64 p.atoms,af p.rules]),cells false 1 fun (a:Nat)=>int i64 (most:Int),cells false 27 (aI (al p).snd)]) 0])) [] [cells false 1 fun (x:Nat)=>int u64 (↑(aC (al p).snd 3 (p.atoms.toNat)):Int)] g),(7,ROrc.callS (fz Fz.auto 1 ((ak (aC (al p).snd 3 (p.atoms.toNat))).l.length) fun (i x:Nat)=>ac (ak (aC (al p).snd 3 (p.atoms.toNat))).l i) [(3,cells false 1 fun (j:Nat)=>any)] g),(9,ROrc.val (Orc.obj (nth [fz Fz.auto 1 ((ak (aC (al p).snd 3 (p.atoms.toNat))).l.length) fun (i x:Nat)=>ac (ak (aC (al p).snd 3 (p.atoms.toNat))).l i])))]),(9,[(1,ROrc.val (Orc.obj (nth [fn 78 0 (nth []) 5 (nth [ref 5 0,ref 1 0,ref 4 0,ref 6 0,ref 0 0])])))]),(10,[(6,ROrc.lcall (int u64 (↑(aC (al p).snd 2 (p.atoms.toNat)):Int)) [2]),(7,ROrc.callN (tup 0 (nth [])) [(5,cells false 1 fun (j:Nat)=>ow true 7 m 1)] [cells false (m*1) (aH L)] g)])]) (fun Q=>(fun (u1:AV)=>(fun (u2:AObj)=>(fun (u3:AObj)=>(fun (u4:List AObj)=>(fun (u5:Int)=>(fun (u6:Int)=>(fun (u7:List AObj)=>(fun (u8:AObj)=>(fun (u9:Bool)=>(fun (u10:AV)=>(fun (u11:List AV)=>(fun (u12:AV)=>(fun (u13:Int)=>2<=2/\(∀(hp:List AObj) (g:R.σ),true=true/\Does Tryd.prog R 16 [av p] hp g (ret (int i64 u13)) hp g)/\((!u13 != 0)=true->1<=1)/\((!u13 != 0)=true->∀(hp:List AObj) (g:R.σ),true=true/\Does Tryd.prog R 58 [int i64 u6,int i64 1,int i64 100] hp g (ret (AV.bool (decide (1<=u6/\u6<=100)))) hp g)/\(u9=true->Wp Tryd.prog R 45 0 Rd.top (ax Tryd.prog 27) [1,0,1,0] (aP Tryd.prog R 45 0 Rd.top (ax Tryd.prog 27) Q [Kont.seq [1,1]]) (St.mk [(2,ref 0 0),(3,ref 1 0),(18,AV.bool u9)] [u2,u3] g))/\(u9=false->2<=2/\(true=true/\Does Tryd.prog R 60 [av p] [u2,u3] g (ret (tup 2 (nth [fz Fz.auto 2 ((bN (al p).fst).l.length) fun (i:Nat)=>e8 ((bN (al p).fst).l.getD i default),ref 2 0]))) [u2,u3,u8] g)/\Tables.follows Tryd.prog.toTables Departure.mixedOrders=true/\1<=2/\(∀(hp':List AObj) (g':R.σ),SameO [2] [u2,u3,u8] hp'->true=true/\Does Tryd.prog R 76 [ref 2 2,int i64 p.atoms,int i64 3] hp' g' (ret u10) hp' g')/\(true=true/\Does Tryd.prog R 77 [u10] [u2,u3,u8] g (ret (fn 105 0 (nth []) 1 (nth [ref 3 0]))) [u2,u3,u8,cells false 1 fun (x:Nat)=>u10] g)/\(true=true/\Does Tryd.prog R 75 [fn 105 0 (nth []) 1 (nth [ref 3 0])] [u2,u3,u8,cells false 1 fun (x:Nat)=>u10] g (ret u1) [u2,u3,u8,cells false 1 fun (j:Nat)=>any] g)/\1<=1/\(∀(c:Nat),c<1->nth [u1] c=aj (fun (a:Nat)=>fz Fz.nil 0 0 fun _ _=>any) 0 1 (fun (x:Nat)=>u1) c)/\1<=1/\(decide (u5 > 10)=true->Wp Tryd.prog R 45 0 Rd.top (ax Tryd.prog 27) [1,1,1,1,0,1,0] (aP Tryd.prog R 45 0 Rd.top (ax Tryd.prog 27) Q [Kont.seq [1,1,1,1,1]]) (St.mk [(2,ref 0 0),(3,ref 1 0),(7,ref 2 0),(8,ref 4 0),(34,AV.bool (decide (u5 > 10)))] [u2,u3,u8,cells false 1 fun (j:Nat)=>any,cells false 1 (nth [u1])] g))/\(decide (u5 > 10)=false->1<=1/\(∀(c:Nat),c<1->nth [fn 78 0 (nth []) 5 (nth u11)] c=aj (fun (a:Nat)=>AV.nilf) 0 1 (fun (x:Nat)=>fn 78 0 (nth []) 5 (nth u11)) c)/\Tables.follows Tryd.prog.toTables Departure.mixedOrders=true/\1<=1/\1<=2/\(∀(hp':List AObj) (g':R.σ),SameO [2] u7 hp'->true=true/\Does Tryd.prog R 76 [ref 2 2,int i64 p.atoms,int i64 2] hp' g' (ret u12) hp' g')/\(true=true/\Does Tryd.prog R 78 (int i64 0::u12::u11) u7 g (ret (tup 0 (nth []))) u4 g)/\1<=1/\Q AEx.ret (St.mk [(4,ow true 7 m 1),(5,int i64 0)] u4 g)))) (if aJ p=true then 0 else 2)) (int u64 (↑(aC (al p).snd 2 (p.atoms.toNat)):Int))) ([ref 5 0,ref 1 0,ref 4 0,ref 6 0,ref 0 0])) (int u64 (↑(aC (al p).snd 3 (p.atoms.toNat)):Int))) (bif (if aJ p=true then 0 else 2) != 0 then true else !decide (1<=u6/\u6<=100))) (cells false 27 (aI (al p).snd))) ([u2,u3,cells false 27 (aI (al p).snd),cells false 1 fun (j:Nat)=>any,cells false 1 (nth [u1]),cells false 1 fun (a:Nat)=>fz Fz.nil 0 0 fun _ _=>any,cells false 1 (nth [fn 78 0 (nth []) 5 (nth [ref 5 0,ref 1 0,ref 4 0,ref 6 0,ref 0 0])])])) ((most:Int))) ((↑((ak (aC (al p).snd 3 (p.atoms.toNat))).l.length):Int))) ([u2,u3,cells false 27 (aI (al p).snd),cells false 1 fun (j:Nat)=>any,cells false 1 (nth [u1]),cells false 1 fun (j:Nat)=>ow true 7 m 1,cells false 1 (nth [fn 78 0 (nth []) 5 (nth [ref 5 0,ref 1 0,ref 4 0,ref 6 0,ref 0 0])]),cells false (m*1) fun (a:Nat)=>fz Fz.auto 1 ((ak (L.getD a 0)).l.length) fun (i x:Nat)=>ac (ak (L.getD a 0)).l i])) (cells false 1 fun (a:Nat)=>int i64 (most:Int))) (cells false 2 (nth [int i64 p.atoms,af p.rules]))) (fz Fz.auto 1 ((ak (aC (al p).snd 3 (p.atoms.toNat))).l.length) fun (i x:Nat)=>ac (ak (aC (al p).snd 3 (p.atoms.toNat))).l i)) (fun _=>by kernel_rfl) ⟨by omega,(fun _ _=>⟨rfl,(fZ _ _ _ _ (by omega))⟩),by omega,(fun hgd=>(fun _ _=>⟨rfl,(dv _ _ _ _ _ _)⟩)),fun hcc=>(nomatch (hc.symm.trans hcc)),fun _=>⟨by omega,⟨rfl,(ef (T:=LT) inferInstance [] 2 (fun R _ g=>hD R g) rfl rfl rfl (by exact trivial) (by exact trivial) (by exact⟨bk (by exact⟨⟨trivial,trivial⟩,trivial⟩),trivial⟩) (by exact(zX (fun i hi=>match i,hi with|0,_=>(zT _)|1,_=>(zT _) ))) (by exact⟨zV,zV,⟨rfl,Nat.le_refl _,fun j hj=>(by first|exact bC (by first|exact trivial|apply kY)|exact zU (dg rfl))⟩,trivial⟩))⟩,by kernel_rfl,by omega,?_,⟨rfl,(cK _ _ _ _)⟩,⟨rfl,(ef (T:=LT) inferInstance [3] 4 (fun R _ g=>hC R (aC (al p).snd 3 (p.atoms.toNat)) (by omega) g) rfl rfl rfl (by exact⟨⟨rfl,Nat.le_refl _,fun j hj=>match j,hj with|0,_=>(zT _) ⟩,trivial⟩) (by exact⟨by omega,trivial⟩) (by exact⟨(Le.fn (fun i hi=>absurd hi (by omega)) (fun i hi=>match i,hi with|0,_=>(zT _) )),trivial⟩) (by exact bC (by exact trivial)) (by exact⟨zV,zV,zV,zV,trivial⟩))⟩,by omega,(fun c hc=>match c,hc with|0,_=>(by kernel_rfl) ),by omega,fun hcc=>(nomatch (hgt.symm.trans hcc)),fun _=>⟨by omega,(fun c hc=>match c,hc with|0,_=>(by kernel_rfl) ),by kernel_rfl,by omega,by omega,?_,⟨rfl,(ef (T:=LT) inferInstance [5,1,4,6,0] 7 (fun R _ g=>hF R g) rfl rfl rfl (by exact⟨⟨rfl,Nat.le_refl _,fun j hj=>match j,hj with|0,_=>(zT _) ⟩,⟨rfl,Nat.le_refl _,fun j hj=>match j,hj with|0,_=>(zT _) ⟩,⟨rfl,Nat.le_refl _,fun j hj=>match j,hj with|0,_=>(zT _) ⟩,⟨rfl,Nat.le_refl _,fun j hj=>match j,hj with|0,_=>(Le.fn (fun i hi=>absurd hi (by omega)) (fun i hi=>match i,hi with|0,_=>(zT _)|1,_=>(zT _)|2,_=>(zT _)|3,_=>(zT _)|4,_=>(zT _) )) ⟩,⟨rfl,Nat.le_refl _,fun j hj=>match j,hj with|0,_=>(zT _)|1,_=>(zT _) ⟩,trivial⟩) (by exact⟨by omega,by omega,by omega,by omega,by omega,trivial⟩) (by exact⟨bk (by exact trivial),bk (by exact trivial),zT _,zT _,zT _,zT _,zT _,trivial⟩) (by exact bC (by exact trivial)) (by exact⟨⟨rfl,Nat.le_refl _,fun j hj=>match j,hj with|0,_=>(zT _)|1,_=>(zT _) ⟩,⟨rfl,Nat.le_refl _,fun j hj=>match j,hj with|0,_=>(zT _) ⟩,zV,zV,⟨rfl,Nat.le_refl _,fun j hj=>match j,hj with|0,_=>(zT _) ⟩,zV,⟨rfl,Nat.le_refl _,fun j hj=>match j,hj with|0,_=>(Le.fn (fun i hi=>absurd hi (by omega)) (fun i hi=>match i,hi with|0,_=>(zT _)|1,_=>(zT _)|2,_=>(zT _)|3,_=>(zT _)|4,_=>(zT _) )) ⟩,⟨rfl,Nat.le_refl _,fun j hj=>(by first|exact bC (by first|exact trivial|apply fF)|exact zU (gA rfl))⟩,trivial⟩))⟩,by omega,?_⟩⟩⟩
 ·intro hp' g' hs'
  exact⟨rfl,jx [2] (fun R g=>hS R g) (by exact⟨rfl,trivial⟩) rfl (by exact fun n=>⟨z4 (fun j hj=>(dg trivial).symm),trivial⟩) ⟨by omega,trivial⟩ (by exact fun n=>⟨zT _,zT _,zT _,trivial⟩) rfl (by exact fun n=>zT _) (by exact fun n=>⟨z4 (fun j hj=>dg trivial),trivial⟩) hp' g' hs'⟩
 ·intro hp' g' hs'
  exact⟨rfl,jx [2] (fun R g=>hS2 R g) (by exact⟨rfl,trivial⟩) rfl (by exact fun n=>⟨z4 (fun j hj=>(dg trivial).symm),trivial⟩) ⟨by omega,trivial⟩ (by exact fun n=>⟨zT _,zT _,zT _,trivial⟩) rfl (by exact fun n=>zT _) (by exact fun n=>⟨z4 (fun j hj=>dg trivial),trivial⟩) hp' g' hs'⟩
 ·subst hm0
  show bq Tryd.prog R 0 _ _ _ _ .ret _
  refine eD (.tup 2 (nth [.ow true 7 L.length 1,.int .i64 0])) _ rfl trivial (jy 0 [(0,.tup 2 (nth [dh L.length (fun i=>ak (L.getD i 0)),.int .i64 0]))] (Nat.le_refl _) (Nat.zero_le _) (fun i hi=>absurd hi (Nat.not_lt_zero i)) ⟨aA.tup (fun j hj=>?_),trivial⟩)
  match j,hj with
  |0,_=>exact aA.le (aA.ow (o:=7) (N:=L.length*1) (c:=aH L) (get:=aH L) (fr:=false) rfl (Nat.zero_le _) (Nat.le_refl _) (by decide) (fun j _=>z1 (fF _ _))) (zZ rfl (fun i j hi hj=>by
    show aH L (i*1+j)=_
    rw[show i*1+j=i by omega]
    rfl))
  |1,_=>exact z1 trivial
theorem y0 (R:Res)[Tab LT R](p:Prg)(most:Nat)(hb:aJ p=true)(hm:1<=most/\most<=100)(hO:(bB (dZ p)).length<=10)(g:R.σ):Does Tryd.prog R 27 [av p,.int .i64 most] [] g (.ret (.tup 2 (nth [dh (stP p most).length (fun i=>ak ((stP p most).getD i 0)),.int .i64 0]))) [] g:=by
 by_cases hN:stP p most=[]
 ·rw[hN]
  exact ip (yY R p most hb hm hO hN g) (jc ⟨zX (fun j hj=>match j,hj with|0,_=>Le.nil_auto|1,_=>zT _),trivial⟩ trivial rfl)
 ·exact yZ R p most hb hm hO hN g
theorem y7 {p:Prg}(h:aJ p=true):∀r,r∈p.rules.l->ge p.atoms.toNat r:=by
 obtain⟨h1,h2,h3,h4,h5⟩:=ff h
 have h3:1<=p.atoms/\p.atoms<=24:=h3
 intro r hr
 refine⟨⟨(h2 r hr).1.1,fun l hl=>?_⟩,?_⟩
 ·have:=h5 r hr l hl
  omega
 ·have:=h4 r hr
  have:=(h2 r hr).2
  omega
structure LstOk (p:Prg)(n:Nat)(s:List Bool)(left:Nat):Prop where
 len:s.length=n
 bit:∀j,j<n->s.getD j false = !left.testBit j
 lt:left<2^24
 inn:∀j,left.testBit j=true->j<n
 cls:∀x y,x<n->left.testBit x=false->Reach p x y->left.testBit y=false
section
variable {p:Prg}{n:Nat}{s:List Bool}{left:Nat}
end
end Go.Avm.Pack
namespace Go.Avm.Pack
open Go Go.Avm Go.Proofs
open Go.IntKind (i64 u64)
open Go.Avm.AV (int bool any fz fp sl ow ref fn ifc val agg tup)
open Go.Avm.AObj (cells dead)
open Go.Avm.Oc (ret)
set_option maxRecDepth 4000
theorem j5 (R:Res)(a:Int)(hp:List AObj)(g:R.σ):Does Tryd.prog R 91 [.int .i64 a] hp g (.ret (br ⟨a,false⟩)) hp g:=by
 refine bP (fun R g=>?_) (by exact⟨trivial,trivial⟩) R hp g
 refine spW (nt:=5) (rs:=[.cell 2 77]) (k0:=0) ?_
 refine vcR [] (lkL [(0,[0,2]),(1,[2])]) (lkL [(1,[(2,ROrc.val (Orc.obj (nth [int i64 a,AV.bool false])))])]) (fun Q=>2<=2/\(∀(c:Nat),c<2->nth [int i64 a,AV.bool false] c=aj (nth [int i64 0,AV.bool false]) 0 2 (List.brecOn (motive:=fun (x:List AV)=>Nat->AV) [int i64 a,AV.bool false] nth._f) c)/\Q AEx.ret (St.mk [(2,ref 0 0)] [cells false 2 (nth [int i64 a,AV.bool false])] g)) ⟨omg,(fun c hc=>match c,hc with|0,_=>krf|1,_=>krf ),?_⟩
 refine(aq (bl (agg 2 (nth [int i64 a,AV.bool false])) ([0+(TyI.mk ((fun (x:TypeInfo)=>x.desc) Tryd.prog.types[76]) Tryd.prog.types[77].size Tryd.prog.types[77].bytes (b8 (cY (Value.agg #[Value.int i64 0,Value.bool false]))) (cA ((fun (x:TypeInfo)=>x.desc) Tryd.prog.types[76])) (dB Tryd.prog 77)).size<=2]) krf (by exact⟨dcd,trivial⟩) ⟨⟨trivial,trivial⟩,trivial⟩ rfl) (zU krf))
theorem j6 (R:Res)(a:Int)(hp:List AObj)(g:R.σ):Does Tryd.prog R 92 [.int .i64 a] hp g (.ret (br ⟨a,true⟩)) hp g:=by
 refine bP (fun R g=>?_) (by exact⟨trivial,trivial⟩) R hp g
 refine spW (nt:=5) (rs:=[.cell 2 77]) (k0:=0) ?_
 refine vcR [] (lkL [(0,[0,2]),(1,[2])]) (lkL [(1,[(2,ROrc.val (Orc.obj (nth [int i64 a,AV.bool true])))])]) (fun Q=>2<=2/\(∀(c:Nat),c<2->nth [int i64 a,AV.bool true] c=aj (nth [int i64 0,AV.bool false]) 0 2 (List.brecOn (motive:=fun (x:List AV)=>Nat->AV) [int i64 a,AV.bool true] nth._f) c)/\Q AEx.ret (St.mk [(2,ref 0 0)] [cells false 2 (nth [int i64 a,AV.bool true])] g)) ⟨omg,(fun c hc=>match c,hc with|0,_=>krf|1,_=>krf ),?_⟩
 refine(aq (bl (agg 2 (nth [int i64 a,AV.bool true])) ([0+(TyI.mk ((fun (x:TypeInfo)=>x.desc) Tryd.prog.types[76]) Tryd.prog.types[77].size Tryd.prog.types[77].bytes (b8 (cY (Value.agg #[Value.int i64 0,Value.bool false]))) (cA ((fun (x:TypeInfo)=>x.desc) Tryd.prog.types[76])) (dB Tryd.prog 77)).size<=2]) krf (by exact⟨dcd,trivial⟩) ⟨⟨trivial,trivial⟩,trivial⟩ rfl) (zU krf))
theorem fg (R:Res)(a:Int)(b:KL Lit)(hp:List AObj)(g:R.σ):Does Tryd.prog R 90 [.int .i64 a,am b] hp g (.ret (bm ⟨a,b⟩)) hp g:=by
 refine bP (fun R g=>?_) (by exact⟨trivial,trivial,trivial⟩) R hp g
 refine spW (nt:=8) (rs:=[.cell 4 75]) (k0:=0) ?_
 refine vcR [] (lkL [(0,[0,1,4]),(1,[4])]) (lkL [(1,[(3,ROrc.val (Orc.obj (nth [int i64 a,am b])))])]) (fun Q=>2<=2/\(∀(c:Nat),c<2->nth [int i64 a,am b] c=aj (nth [int i64 0,fz Fz.nil 0 0 fun x x_1=>any]) 0 2 (List.brecOn (motive:=fun (x:List AV)=>Nat->AV) [int i64 a,am b] nth._f) c)/\Q AEx.ret (St.mk [(4,ref 0 0)] [cells false 2 (nth [int i64 a,am b])] g)) ⟨omg,(fun c hc=>match c,hc with|0,_=>krf|1,_=>krf ),?_⟩
 refine(aq (bl (agg 2 (nth [int i64 a,fz b.2 2 (b.l.length) fun (i:Nat)=>iu (b.l.getD i default)])) ([0+(TyI.mk ((fun (x:TypeInfo)=>x.desc) Tryd.prog.types[74]) Tryd.prog.types[75].size Tryd.prog.types[75].bytes (b8 (cY (Value.agg #[Value.int i64 0,Value.slice none 0 0]))) (cA ((fun (x:TypeInfo)=>x.desc) Tryd.prog.types[74])) (dB Tryd.prog 75)).size<=2]) krf (by exact⟨dcd,trivial⟩) ⟨⟨trivial,trivial⟩,trivial⟩ rfl) (zU krf))
def tN:KL Lit:=⟨[],.nil⟩
def tA1:KL Lit:=⟨[⟨0,false⟩,⟨2,true⟩],.exa⟩
def tA2:KL Lit:=⟨[⟨3,false⟩],.exa⟩
def tA3:KL Lit:=⟨[⟨2,false⟩],.exa⟩
def tA4:KL Lit:=⟨[⟨5,true⟩],.exa⟩
def tA5:KL Lit:=⟨[⟨4,true⟩],.exa⟩
def tAR:KL Rule:=⟨[⟨0,tN⟩,⟨1,tA1⟩,⟨2,tA2⟩,⟨3,tA3⟩,⟨4,tA4⟩,⟨5,tA5⟩],.exa⟩
def tA:Prg:=⟨6,tAR⟩
def tB1:KL Lit:=⟨[⟨1,true⟩],.exa⟩
def tB2:KL Lit:=⟨[⟨0,true⟩],.exa⟩
def tB3:KL Lit:=⟨[⟨0,false⟩],.exa⟩
def tB4:KL Lit:=⟨[⟨1,false⟩],.exa⟩
def tBR:KL Rule:=⟨[⟨0,tB1⟩,⟨1,tB2⟩,⟨2,tB3⟩,⟨2,tB4⟩],.exa⟩
def tB:Prg:=⟨3,tBR⟩
def tS1:KL Int:=⟨[0],.exa⟩
def tS2:KL Int:=⟨[2,3],.exa⟩
def tS3:KL Int:=⟨[1],.exa⟩
def tS:KL Step:=⟨[⟨0,tS1⟩,⟨-1,tS2⟩,⟨1,tS3⟩],.exa⟩
theorem c_A (R:Res)(hp:List AObj)(g:R.σ):Does Tryd.prog R 44 [] hp g (.ret (av tA)) hp g:=by
 refine bP (fun R g=>?_) (by exact trivial) R hp g
 obtain⟨v0,e0⟩:∃v,v=tN:=⟨_,rfl⟩
 obtain⟨v1,e1⟩:∃v,v=tA1:=⟨_,rfl⟩
 obtain⟨v2,e2⟩:∃v,v=tA2:=⟨_,rfl⟩
 obtain⟨v3,e3⟩:∃v,v=tA3:=⟨_,rfl⟩
 obtain⟨v4,e4⟩:∃v,v=tA4:=⟨_,rfl⟩
 obtain⟨v5,e5⟩:∃v,v=tA5:=⟨_,rfl⟩
 obtain⟨w,f⟩:∃v,v=tAR:=⟨_,rfl⟩
 show Does _ _ _ _ _ _ (.ret (av ⟨6,tAR⟩)) _ _
 rw[<-f]
 refine spW (nt:=20) (rs:=[.cell 0 24]) (k0:=0) ?_
 refine vcR [] (lkL [(0,[0]),(1,[0])]) (lkL [(1,[(0,ROrc.pcall (bm (Rule.mk 0 (KL.mk [] Fz.nil)))),(1,ROrc.pcall (br (Lit.mk 0 false))),(2,ROrc.pcall (br (Lit.mk 2 true))),(3,ROrc.kop (am v1)),(4,ROrc.pcall (bm (Rule.mk 1 v1))),(5,ROrc.pcall (br (Lit.mk 3 false))),(6,ROrc.kop (am v2)),(7,ROrc.pcall (bm (Rule.mk 2 v2))),(8,ROrc.pcall (br (Lit.mk 2 false))),(9,ROrc.kop (am v3)),(10,ROrc.pcall (bm (Rule.mk 3 v3))),(11,ROrc.pcall (br (Lit.mk 5 true))),(12,ROrc.kop (am v4)),(13,ROrc.pcall (bm (Rule.mk 4 v4))),(14,ROrc.pcall (br (Lit.mk 4 true))),(15,ROrc.kop (am v5)),(16,ROrc.pcall (bm (Rule.mk 5 v5))),(17,ROrc.kop (af w)),(19,ROrc.val (Orc.obj (nth [int i64 6,af w])))])]) (fun Q=>(fun (u1:List Row)=>(fun (u2:List AObj)=>(fun (u3:List Row)=>(fun (u4:List Row)=>(fun (u5:List Row)=>(fun (u6:List (Nat × AV))=>(∀(hp:List AObj) (g:R.σ),true=true/\Does Tryd.prog R 90 [int i64 0,fz Fz.nil 0 0 fun x x_1=>any] hp g (ret (agg 2 (nth [int i64 0,fz Fz.nil 2 0 fun i=>iu ((KL.mk [] Fz.nil).l.getD i default)]))) hp g)/\(∀(hp:List AObj) (g:R.σ),true=true/\Does Tryd.prog R 91 [int i64 0] hp g (ret (agg 2 (nth [int i64 0,AV.bool false]))) hp g)/\(∀(hp:List AObj) (g:R.σ),true=true/\Does Tryd.prog R 92 [int i64 2] hp g (ret (agg 2 (nth [int i64 2,AV.bool true]))) hp g)/\OpOk Tryd.prog R (Oper.mk (some 4) (Op.buildSlice 73 2 #[(0,Operand.tmp 2),(1,Operand.tmp 3)]) 73 "law.go:21" #[Edge.mk 1 Ground.data,Edge.mk 2 Ground.data] none) (evO u4 u6 []) u2 g (am v1) u2 g/\(∀(hp:List AObj) (g:R.σ),true=true/\Does Tryd.prog R 90 [int i64 1,am v1] hp g (ret (agg 2 (nth [int i64 1,am v1]))) hp g)/\(∀(hp:List AObj) (g:R.σ),true=true/\Does Tryd.prog R 91 [int i64 3] hp g (ret (agg 2 (nth [int i64 3,AV.bool false]))) hp g)/\OpOk Tryd.prog R (Oper.mk (some 7) (Op.buildSlice 73 1 #[(0,Operand.tmp 6)]) 73 "law.go:21" #[Edge.mk 5 Ground.data] none) (evO (Row.mk (some 6) none (agg 2 (nth [int i64 3,AV.bool false])) false (some []) []::Row.mk (some 5) none (agg 2 (nth [int i64 1,am v1])) false (some []) []::Row.mk (some 4) none (am v1) true (some []) []::u4) u6 []) u2 g (am v2) u2 g/\(∀(hp:List AObj) (g:R.σ),true=true/\Does Tryd.prog R 90 [int i64 2,am v2] hp g (ret (agg 2 (nth [int i64 2,am v2]))) hp g)/\(∀(hp:List AObj) (g:R.σ),true=true/\Does Tryd.prog R 91 [int i64 2] hp g (ret (agg 2 (nth [int i64 2,AV.bool false]))) hp g)/\OpOk Tryd.prog R (Oper.mk (some 10) (Op.buildSlice 73 1 #[(0,Operand.tmp 9)]) 73 "law.go:21" #[Edge.mk 8 Ground.data] none) (evO u1 u6 []) u2 g (am v3) u2 g/\(∀(hp:List AObj) (g:R.σ),true=true/\Does Tryd.prog R 90 [int i64 3,am v3] hp g (ret (agg 2 (nth [int i64 3,am v3]))) hp g)/\(∀(hp:List AObj) (g:R.σ),true=true/\Does Tryd.prog R 92 [int i64 5] hp g (ret (agg 2 (nth [int i64 5,AV.bool true]))) hp g)/\OpOk Tryd.prog R (Oper.mk (some 13) (Op.buildSlice 73 1 #[(0,Operand.tmp 12)]) 73 "law.go:21" #[Edge.mk 11 Ground.data] none) (evO u3 u6 []) u2 g (am v4) u2 g/\(∀(hp:List AObj) (g:R.σ),true=true/\Does Tryd.prog R 90 [int i64 4,am v4] hp g (ret (agg 2 (nth [int i64 4,am v4]))) hp g)/\(∀(hp:List AObj) (g:R.σ),true=true/\Does Tryd.prog R 92 [int i64 4] hp g (ret (agg 2 (nth [int i64 4,AV.bool true]))) hp g)/\OpOk Tryd.prog R (Oper.mk (some 16) (Op.buildSlice 73 1 #[(0,Operand.tmp 15)]) 73 "law.go:21" #[Edge.mk 14 Ground.data] none) (evO u5 u6 []) u2 g (am v5) u2 g/\(∀(hp:List AObj) (g:R.σ),true=true/\Does Tryd.prog R 90 [int i64 5,am v5] hp g (ret (agg 2 (nth [int i64 5,am v5]))) hp g)/\OpOk Tryd.prog R (Oper.mk (some 18) (Op.buildSlice 22 6 #[(0,Operand.tmp 1),(1,Operand.tmp 5),(2,Operand.tmp 8),(3,Operand.tmp 11),(4,Operand.tmp 14),(5,Operand.tmp 17)]) 22 "law.go:21" #[Edge.mk 0 Ground.data,Edge.mk 4 Ground.data,Edge.mk 7 Ground.data,Edge.mk 10 Ground.data,Edge.mk 13 Ground.data,Edge.mk 16 Ground.data] none) (evO (Row.mk (some 17) none (agg 2 (nth [int i64 5,am v5])) false (some []) []::Row.mk (some 16) none (am v5) true (some []) []::u5) u6 []) u2 g (af w) u2 g/\2<=2/\(∀(c:Nat),c<2->nth [int i64 6,af w] c=aj (nth [int i64 0,fz Fz.nil 0 0 fun x x_1=>any]) 0 2 (List.brecOn (motive:=fun (x:List AV)=>Nat->AV) [int i64 6,af w] nth._f) c)/\Q AEx.ret (St.mk u6 [cells false 2 (nth [int i64 6,af w])] g)) ([(0,ref 0 0)])) (Row.mk (some 15) none (agg 2 (nth [int i64 4,AV.bool true])) false (some []) []::Row.mk (some 14) none (agg 2 (nth [int i64 4,am v4])) false (some []) []::Row.mk (some 13) none (am v4) true (some []) []::u3)) ([Row.mk (some 3) none (agg 2 (nth [int i64 2,AV.bool true])) false (some []) [],Row.mk (some 2) none (agg 2 (nth [int i64 0,AV.bool false])) false (some []) [],Row.mk (some 1) none (agg 2 (nth [int i64 0,fz Fz.nil 2 0 fun i=>iu (List.getD [] i default)])) false (some []) []])) (Row.mk (some 12) none (agg 2 (nth [int i64 5,AV.bool true])) false (some []) []::Row.mk (some 11) none (agg 2 (nth [int i64 3,am v3])) false (some []) []::Row.mk (some 10) none (am v3) true (some []) []::u1)) ([cells false 2 (nth [int i64 0,fz Fz.nil 0 0 fun x x_1=>any])])) ([Row.mk (some 9) none (agg 2 (nth [int i64 2,AV.bool false])) false (some []) [],Row.mk (some 8) none (agg 2 (nth [int i64 2,am v2])) false (some []) [],Row.mk (some 7) none (am v2) true (some []) [],Row.mk (some 6) none (agg 2 (nth [int i64 3,AV.bool false])) false (some []) [],Row.mk (some 5) none (agg 2 (nth [int i64 1,am v1])) false (some []) [],Row.mk (some 4) none (am v1) true (some []) [],Row.mk (some 3) none (agg 2 (nth [int i64 2,AV.bool true])) false (some []) [],Row.mk (some 2) none (agg 2 (nth [int i64 0,AV.bool false])) false (some []) [],Row.mk (some 1) none (agg 2 (nth [int i64 0,fz Fz.nil 2 0 fun i=>iu (List.getD [] i default)])) false (some []) []])) ⟨(fun _ _=>⟨rfl,(mS (args':=[int i64 0,am (KL.mk [] Fz.nil)]) (fg _ _ (KL.mk [] Fz.nil) _ _) (by exact⟨zT _,Le.nil,trivial⟩) (zT _))⟩),(fun _ _=>⟨rfl,(j5 _ _ _ _)⟩),(fun _ _=>⟨rfl,(j6 _ _ _ _)⟩),?_,(fun _ _=>⟨rfl,(fg _ _ _ _ _)⟩),(fun _ _=>⟨rfl,(j5 _ _ _ _)⟩),?_,(fun _ _=>⟨rfl,(fg _ _ _ _ _)⟩),(fun _ _=>⟨rfl,(j5 _ _ _ _)⟩),?_,(fun _ _=>⟨rfl,(fg _ _ _ _ _)⟩),(fun _ _=>⟨rfl,(j6 _ _ _ _)⟩),?_,(fun _ _=>⟨rfl,(fg _ _ _ _ _)⟩),(fun _ _=>⟨rfl,(j6 _ _ _ _)⟩),?_,(fun _ _=>⟨rfl,(fg _ _ _ _ _)⟩),?_,omg,(fun c hc=>match c,hc with|0,_=>krf|1,_=>krf ),?_⟩
 ·subst e1;exact bX (n:=2) (es:=2) krf (by exact⟨⟨⟨trivial,trivial⟩,trivial⟩,⟨⟨trivial,trivial⟩,trivial⟩,trivial⟩) rfl rfl (fun i hi j hj=>match i,hi,j,hj with|0,_,0,_=>krf|0,_,1,_=>krf|1,_,0,_=>krf|1,_,1,_=>krf ) (fun i hi j hj=>match i,hi,j,hj with|0,_,0,_=>trivial|0,_,1,_=>trivial|1,_,0,_=>trivial|1,_,1,_=>trivial )
 ·subst e2;exact bX (n:=1) (es:=2) krf (by exact⟨⟨⟨trivial,trivial⟩,trivial⟩,trivial⟩) rfl rfl (fun i hi j hj=>match i,hi,j,hj with|0,_,0,_=>krf|0,_,1,_=>krf ) (fun i hi j hj=>match i,hi,j,hj with|0,_,0,_=>trivial|0,_,1,_=>trivial )
 ·subst e3;exact bX (n:=1) (es:=2) krf (by exact⟨⟨⟨trivial,trivial⟩,trivial⟩,trivial⟩) rfl rfl (fun i hi j hj=>match i,hi,j,hj with|0,_,0,_=>krf|0,_,1,_=>krf ) (fun i hi j hj=>match i,hi,j,hj with|0,_,0,_=>trivial|0,_,1,_=>trivial )
 ·subst e4;exact bX (n:=1) (es:=2) krf (by exact⟨⟨⟨trivial,trivial⟩,trivial⟩,trivial⟩) rfl rfl (fun i hi j hj=>match i,hi,j,hj with|0,_,0,_=>krf|0,_,1,_=>krf ) (fun i hi j hj=>match i,hi,j,hj with|0,_,0,_=>trivial|0,_,1,_=>trivial )
 ·subst e5;exact bX (n:=1) (es:=2) krf (by exact⟨⟨⟨trivial,trivial⟩,trivial⟩,trivial⟩) rfl rfl (fun i hi j hj=>match i,hi,j,hj with|0,_,0,_=>krf|0,_,1,_=>krf ) (fun i hi j hj=>match i,hi,j,hj with|0,_,0,_=>trivial|0,_,1,_=>trivial )
 ·subst e1 e2 e3 e4 e5 f;exact bX (n:=6) (es:=2) krf (by exact⟨⟨⟨trivial,trivial⟩,trivial⟩,⟨⟨trivial,trivial⟩,trivial⟩,⟨⟨trivial,trivial⟩,trivial⟩,⟨⟨trivial,trivial⟩,trivial⟩,⟨⟨trivial,trivial⟩,trivial⟩,⟨⟨trivial,trivial⟩,trivial⟩,trivial⟩) rfl rfl (fun i hi j hj=>match i,hi,j,hj with|0,_,0,_=>krf|0,_,1,_=>krf|1,_,0,_=>krf|1,_,1,_=>krf|2,_,0,_=>krf|2,_,1,_=>krf|3,_,0,_=>krf|3,_,1,_=>krf|4,_,0,_=>krf|4,_,1,_=>krf|5,_,0,_=>krf|5,_,1,_=>krf ) (fun i hi j hj=>match i,hi,j,hj with|0,_,0,_=>trivial|0,_,1,_=>trivial|1,_,0,_=>trivial|1,_,1,_=>trivial|2,_,0,_=>trivial|2,_,1,_=>trivial|3,_,0,_=>trivial|3,_,1,_=>trivial|4,_,0,_=>trivial|4,_,1,_=>trivial|5,_,0,_=>trivial|5,_,1,_=>trivial )
 ·refine(aq (bl (agg 2 (nth [int i64 6,fz w.2 2 (w.l.length) fun (i:Nat)=>bx (w.l.getD i default)])) ([0+(TyI.mk ((fun (x:TypeInfo)=>x.desc) Tryd.prog.types[23]) Tryd.prog.types[24].size Tryd.prog.types[24].bytes (b8 (cY (Value.agg #[Value.int i64 0,Value.slice none 0 0]))) (cA ((fun (x:TypeInfo)=>x.desc) Tryd.prog.types[23])) (dB Tryd.prog 24)).size<=2]) krf (by exact⟨dcd,trivial⟩) ⟨⟨trivial,trivial⟩,trivial⟩ rfl) (zU krf))
theorem c_B (R:Res)(hp:List AObj)(g:R.σ):Does Tryd.prog R 45 [] hp g (.ret (av tB)) hp g:=by
 refine bP (fun R g=>?_) (by exact trivial) R hp g
 obtain⟨v1,e1⟩:∃v,v=tB1:=⟨_,rfl⟩
 obtain⟨v2,e2⟩:∃v,v=tB2:=⟨_,rfl⟩
 obtain⟨v3,e3⟩:∃v,v=tB3:=⟨_,rfl⟩
 obtain⟨v4,e4⟩:∃v,v=tB4:=⟨_,rfl⟩
 obtain⟨w,f⟩:∃v,v=tBR:=⟨_,rfl⟩
 show Does _ _ _ _ _ _ (.ret (av ⟨3,tBR⟩)) _ _
 rw[<-f]
 refine spW (nt:=15) (rs:=[.cell 0 24]) (k0:=0) ?_
 refine vcR [] (lkL [(0,[0]),(1,[0])]) (lkL [(1,[(0,ROrc.pcall (br (Lit.mk 1 true))),(1,ROrc.kop (am v1)),(2,ROrc.pcall (bm (Rule.mk 0 v1))),(3,ROrc.pcall (br (Lit.mk 0 true))),(4,ROrc.kop (am v2)),(5,ROrc.pcall (bm (Rule.mk 1 v2))),(6,ROrc.pcall (br (Lit.mk 0 false))),(7,ROrc.kop (am v3)),(8,ROrc.pcall (bm (Rule.mk 2 v3))),(9,ROrc.pcall (br (Lit.mk 1 false))),(10,ROrc.kop (am v4)),(11,ROrc.pcall (bm (Rule.mk 2 v4))),(12,ROrc.kop (af w)),(14,ROrc.val (Orc.obj (nth [int i64 3,af w])))])]) (fun Q=>(fun (u1:List Row)=>(fun (u2:List AObj)=>(fun (u3:List Row)=>(fun (u4:Row)=>(fun (u5:AV)=>(∀(hp:List AObj) (g:R.σ),true=true/\Does Tryd.prog R 92 [int i64 1] hp g (ret (agg 2 (nth [int i64 1,AV.bool true]))) hp g)/\OpOk Tryd.prog R (Oper.mk (some 2) (Op.buildSlice 73 1 #[(0,Operand.tmp 1)]) 73 "law.go:25" #[Edge.mk 0 Ground.data] none) (evO [u4] [(0,ref 0 0)] []) u2 g (am v1) u2 g/\(∀(hp:List AObj) (g:R.σ),true=true/\Does Tryd.prog R 90 [u5,am v1] hp g (ret (agg 2 (nth [u5,am v1]))) hp g)/\(∀(hp:List AObj) (g:R.σ),true=true/\Does Tryd.prog R 92 [u5] hp g (ret (agg 2 (nth [u5,AV.bool true]))) hp g)/\OpOk Tryd.prog R (Oper.mk (some 5) (Op.buildSlice 73 1 #[(0,Operand.tmp 4)]) 73 "law.go:25" #[Edge.mk 3 Ground.data] none) (evO [Row.mk (some 4) none (agg 2 (nth [u5,AV.bool true])) false (some []) [],Row.mk (some 3) none (agg 2 (nth [u5,am v1])) false (some []) [],Row.mk (some 2) none (am v1) true (some []) [],u4] [(0,ref 0 0)] []) u2 g (am v2) u2 g/\(∀(hp:List AObj) (g:R.σ),true=true/\Does Tryd.prog R 90 [int i64 1,am v2] hp g (ret (agg 2 (nth [int i64 1,am v2]))) hp g)/\(∀(hp:List AObj) (g:R.σ),true=true/\Does Tryd.prog R 91 [u5] hp g (ret (agg 2 (nth [u5,AV.bool false]))) hp g)/\OpOk Tryd.prog R (Oper.mk (some 8) (Op.buildSlice 73 1 #[(0,Operand.tmp 7)]) 73 "law.go:25" #[Edge.mk 6 Ground.data] none) (evO u1 [(0,ref 0 0)] []) u2 g (am v3) u2 g/\(∀(hp:List AObj) (g:R.σ),true=true/\Does Tryd.prog R 90 [int i64 2,am v3] hp g (ret (agg 2 (nth [int i64 2,am v3]))) hp g)/\(∀(hp:List AObj) (g:R.σ),true=true/\Does Tryd.prog R 91 [int i64 1] hp g (ret (agg 2 (nth [int i64 1,AV.bool false]))) hp g)/\OpOk Tryd.prog R (Oper.mk (some 11) (Op.buildSlice 73 1 #[(0,Operand.tmp 10)]) 73 "law.go:25" #[Edge.mk 9 Ground.data] none) (evO u3 [(0,ref 0 0)] []) u2 g (am v4) u2 g/\(∀(hp:List AObj) (g:R.σ),true=true/\Does Tryd.prog R 90 [int i64 2,am v4] hp g (ret (agg 2 (nth [int i64 2,am v4]))) hp g)/\OpOk Tryd.prog R (Oper.mk (some 13) (Op.buildSlice 22 4 #[(0,Operand.tmp 3),(1,Operand.tmp 6),(2,Operand.tmp 9),(3,Operand.tmp 12)]) 22 "law.go:25" #[Edge.mk 2 Ground.data,Edge.mk 5 Ground.data,Edge.mk 8 Ground.data,Edge.mk 11 Ground.data] none) (evO (Row.mk (some 12) none (agg 2 (nth [int i64 2,am v4])) false (some []) []::Row.mk (some 11) none (am v4) true (some []) []::u3) [(0,ref 0 0)] []) u2 g (af w) u2 g/\2<=2/\(∀(c:Nat),c<2->nth [int i64 3,af w] c=aj (nth [u5,fz Fz.nil 0 0 fun x x_1=>any]) 0 2 (List.brecOn (motive:=fun (x:List AV)=>Nat->AV) [int i64 3,af w] nth._f) c)/\Q AEx.ret (St.mk [(0,ref 0 0)] [cells false 2 (nth [int i64 3,af w])] g)) (int i64 0)) (Row.mk (some 1) none (agg 2 (nth [int i64 1,AV.bool true])) false (some []) [])) (Row.mk (some 10) none (agg 2 (nth [int i64 1,AV.bool false])) false (some []) []::Row.mk (some 9) none (agg 2 (nth [int i64 2,am v3])) false (some []) []::Row.mk (some 8) none (am v3) true (some []) []::u1)) ([cells false 2 (nth [int i64 0,fz Fz.nil 0 0 fun x x_1=>any])])) ([Row.mk (some 7) none (agg 2 (nth [int i64 0,AV.bool false])) false (some []) [],Row.mk (some 6) none (agg 2 (nth [int i64 1,am v2])) false (some []) [],Row.mk (some 5) none (am v2) true (some []) [],Row.mk (some 4) none (agg 2 (nth [int i64 0,AV.bool true])) false (some []) [],Row.mk (some 3) none (agg 2 (nth [int i64 0,am v1])) false (some []) [],Row.mk (some 2) none (am v1) true (some []) [],Row.mk (some 1) none (agg 2 (nth [int i64 1,AV.bool true])) false (some []) []])) ⟨(fun _ _=>⟨rfl,(j6 _ _ _ _)⟩),?_,(fun _ _=>⟨rfl,(fg _ _ _ _ _)⟩),(fun _ _=>⟨rfl,(j6 _ _ _ _)⟩),?_,(fun _ _=>⟨rfl,(fg _ _ _ _ _)⟩),(fun _ _=>⟨rfl,(j5 _ _ _ _)⟩),?_,(fun _ _=>⟨rfl,(fg _ _ _ _ _)⟩),(fun _ _=>⟨rfl,(j5 _ _ _ _)⟩),?_,(fun _ _=>⟨rfl,(fg _ _ _ _ _)⟩),?_,omg,(fun c hc=>match c,hc with|0,_=>krf|1,_=>krf ),?_⟩
 ·subst e1;exact bX (n:=1) (es:=2) krf (by exact⟨⟨⟨trivial,trivial⟩,trivial⟩,trivial⟩) rfl rfl (fun i hi j hj=>match i,hi,j,hj with|0,_,0,_=>krf|0,_,1,_=>krf ) (fun i hi j hj=>match i,hi,j,hj with|0,_,0,_=>trivial|0,_,1,_=>trivial )
 ·subst e2;exact bX (n:=1) (es:=2) krf (by exact⟨⟨⟨trivial,trivial⟩,trivial⟩,trivial⟩) rfl rfl (fun i hi j hj=>match i,hi,j,hj with|0,_,0,_=>krf|0,_,1,_=>krf ) (fun i hi j hj=>match i,hi,j,hj with|0,_,0,_=>trivial|0,_,1,_=>trivial )
 ·subst e3;exact bX (n:=1) (es:=2) krf (by exact⟨⟨⟨trivial,trivial⟩,trivial⟩,trivial⟩) rfl rfl (fun i hi j hj=>match i,hi,j,hj with|0,_,0,_=>krf|0,_,1,_=>krf ) (fun i hi j hj=>match i,hi,j,hj with|0,_,0,_=>trivial|0,_,1,_=>trivial )
 ·subst e4;exact bX (n:=1) (es:=2) krf (by exact⟨⟨⟨trivial,trivial⟩,trivial⟩,trivial⟩) rfl rfl (fun i hi j hj=>match i,hi,j,hj with|0,_,0,_=>krf|0,_,1,_=>krf ) (fun i hi j hj=>match i,hi,j,hj with|0,_,0,_=>trivial|0,_,1,_=>trivial )
 ·subst e1 e2 e3 e4 f;exact bX (n:=4) (es:=2) krf (by exact⟨⟨⟨trivial,trivial⟩,trivial⟩,⟨⟨trivial,trivial⟩,trivial⟩,⟨⟨trivial,trivial⟩,trivial⟩,⟨⟨trivial,trivial⟩,trivial⟩,trivial⟩) rfl rfl (fun i hi j hj=>match i,hi,j,hj with|0,_,0,_=>krf|0,_,1,_=>krf|1,_,0,_=>krf|1,_,1,_=>krf|2,_,0,_=>krf|2,_,1,_=>krf|3,_,0,_=>krf|3,_,1,_=>krf ) (fun i hi j hj=>match i,hi,j,hj with|0,_,0,_=>trivial|0,_,1,_=>trivial|1,_,0,_=>trivial|1,_,1,_=>trivial|2,_,0,_=>trivial|2,_,1,_=>trivial|3,_,0,_=>trivial|3,_,1,_=>trivial )
 ·refine(aq (bl (agg 2 (nth [int i64 3,fz w.2 2 (w.l.length) fun (i:Nat)=>bx (w.l.getD i default)])) ([0+(TyI.mk ((fun (x:TypeInfo)=>x.desc) Tryd.prog.types[23]) Tryd.prog.types[24].size Tryd.prog.types[24].bytes (b8 (cY (Value.agg #[Value.int i64 0,Value.slice none 0 0]))) (cA ((fun (x:TypeInfo)=>x.desc) Tryd.prog.types[23])) (dB Tryd.prog 24)).size<=2]) krf (by exact⟨dcd,trivial⟩) ⟨⟨trivial,trivial⟩,trivial⟩ rfl) (zU krf))
theorem y8 (R:Res)(hp:List AObj)(g:R.σ):Does Tryd.prog R 57 [] hp g (.ret (au tS)) hp g:=by
 refine bP (fun R g=>?_) (by exact trivial) R hp g
 obtain⟨v1,e1⟩:∃v,v=tS1:=⟨_,rfl⟩
 obtain⟨v2,e2⟩:∃v,v=tS2:=⟨_,rfl⟩
 obtain⟨v3,e3⟩:∃v,v=tS3:=⟨_,rfl⟩
 obtain⟨w,f⟩:∃v,v=tS:=⟨_,rfl⟩
 rw[<-f]
 refine spW (nt:=8) (rs:=[.tmp 0]) (k0:=0) ?_
 refine vcR [] (lkL [(1,[0])]) (lkL [(1,[(0,ROrc.kop (ah v1)),(2,ROrc.kop (ah v2)),(4,ROrc.kop (ah v3)),(6,ROrc.kop (au w))])]) (fun Q=>(fun (u1:List Row)=>OpOk Tryd.prog R (Oper.mk (some 1) (Op.buildSlice 53 1 #[(0,Operand.const (Value.int i64 0))]) 53 "law.go:30" #[] none) (evO [] [] []) [] g (ah v1) [] g/\OpOk Tryd.prog R (Oper.mk (some 3) (Op.buildSlice 53 2 #[(0,Operand.const (Value.int i64 2)),(1,Operand.const (Value.int i64 3))]) 53 "law.go:30" #[] none) (evO [Row.mk (some 2) none (agg 2 (nth [int i64 0,ah v1])) false (some []) [],Row.mk (some 1) none (ah v1) true (some []) []] [] []) [] g (ah v2) [] g/\OpOk Tryd.prog R (Oper.mk (some 5) (Op.buildSlice 53 1 #[(0,Operand.const (Value.int i64 1))]) 53 "law.go:30" #[] none) (evO u1 [] []) [] g (ah v3) [] g/\OpOk Tryd.prog R (Oper.mk (some 7) (Op.buildSlice 29 3 #[(0,Operand.tmp 2),(1,Operand.tmp 4),(2,Operand.tmp 6)]) 29 "law.go:30" #[Edge.mk 1 Ground.data,Edge.mk 3 Ground.data,Edge.mk 5 Ground.data] none) (evO (Row.mk (some 6) none (agg 2 (nth [int i64 1,ah v3])) false (some []) []::Row.mk (some 5) none (ah v3) true (some []) []::u1) [] []) [] g (au w) [] g/\Q AEx.ret (St.mk [(0,au w)] [] g)) ([Row.mk (some 4) none (agg 2 (nth [int i64 (-1),ah v2])) false (some []) [],Row.mk (some 3) none (ah v2) true (some []) [],Row.mk (some 2) none (agg 2 (nth [int i64 0,ah v1])) false (some []) [],Row.mk (some 1) none (ah v1) true (some []) []])) ⟨?_,?_,?_,?_,?_⟩
 ·subst e1;exact bX (n:=1) (es:=1) krf (by exact⟨trivial,trivial⟩) rfl rfl (fun i hi j hj=>match i,hi,j,hj with|0,_,0,_=>krf ) (fun i hi j hj=>match i,hi,j,hj with|0,_,0,_=>trivial )
 ·subst e2;exact bX (n:=2) (es:=1) krf (by exact⟨trivial,trivial,trivial⟩) rfl rfl (fun i hi j hj=>match i,hi,j,hj with|0,_,0,_=>krf|1,_,0,_=>krf ) (fun i hi j hj=>match i,hi,j,hj with|0,_,0,_=>trivial|1,_,0,_=>trivial )
 ·subst e3;exact bX (n:=1) (es:=1) krf (by exact⟨trivial,trivial⟩) rfl rfl (fun i hi j hj=>match i,hi,j,hj with|0,_,0,_=>krf ) (fun i hi j hj=>match i,hi,j,hj with|0,_,0,_=>trivial )
 ·subst e1 e2 e3 f;exact bX (n:=3) (es:=2) krf (by exact⟨⟨⟨trivial,trivial⟩,trivial⟩,⟨⟨trivial,trivial⟩,trivial⟩,⟨⟨trivial,trivial⟩,trivial⟩,trivial⟩) rfl rfl (fun i hi j hj=>match i,hi,j,hj with|0,_,0,_=>krf|0,_,1,_=>krf|1,_,0,_=>krf|1,_,1,_=>krf|2,_,0,_=>krf|2,_,1,_=>krf ) (fun i hi j hj=>match i,hi,j,hj with|0,_,0,_=>trivial|0,_,1,_=>trivial|1,_,0,_=>trivial|1,_,1,_=>trivial|2,_,0,_=>trivial|2,_,1,_=>trivial )
 ·refine(aq (aU _ _ rfl trivial rfl rfl rfl) (zU krf))
theorem lR:aJ tA=true:=by kernel_rfl
theorem y9:aJ tB=true:=by kernel_rfl
theorem za:(al tA).1=[⟨0,[0]⟩,⟨-1,[2,3]⟩,⟨1,[1]⟩]:=by kernel_rfl
theorem sy:(et tA (al tA).2).l=[2,2,1,1,3,3]:=by kernel_rfl
theorem sz:co tA=[1,12,2,48]:=by kernel_rfl
theorem zb:(al (az tA (hgP tA 1))).2 1=2:=by kernel_rfl
theorem zc:(dX (hgP tA 1) (ba (hgP tA 1) tA.rules.l 0) (al (az tA (hgP tA 1))).1).l.map di=tS.l.map di:=by kernel_rfl
theorem zd:(bB (dZ tB)).length<=10:=by decide
theorem sA:stP tB 9=[6,5]:=by kernel_rfl
end Go.Avm.Pack
