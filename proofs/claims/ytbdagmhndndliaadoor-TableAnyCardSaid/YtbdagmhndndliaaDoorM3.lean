/- Part 3 of the proof: lemmas. -/
import Derived.Test.YtbdagmhndndliaaDoorM2
namespace Go.Avm.Pack
open Go Go.Avm Go.Proofs
open Go.IntKind (i64 u64)
open Go.Avm.AV (int bool any fz fp sl ow ref fn ifc val agg tup)
open Go.Avm.AObj (cells dead)
open Go.Avm.Oc (ret)
set_option maxRecDepth 4000
theorem nu {U:Type}[DecidableEq U]{a b:List U}(d:U)(h:a.length=b.length)(h2:∀j,j<a.length->a.getD j d=b.getD j d):a=b:=
 List.ext_getElem h (fun j h3 h4=>by have:=h2 j h3;simpa[List.getD,h3,h4] using this)
theorem nv {U:Type}{a b:List U}{d:U}{j:Nat}(h:a.getD j d≠b.getD j d):a≠b:=fun e=>h (by rw[e])
theorem qX (R:Res)(a b:KL Int)(hp:List AObj)(g:R.σ)(hl:a.l.length<1000000):Does Tryd.prog R 33 [ah a,ah b] hp g (.ret (.bool (decide (a.l=b.l)))) hp g:=by
 refine bN (fun R g=>?_) (by exact⟨trivial,trivial,trivial⟩) R hp g
 refine spW (nt:=33) (rs:=[.tmp 4]) (k0:=0) ?_
 refine vcR [] (lkL [(0,[0,1]),(1,[0,1,5])]) (fun _=>[]) (fun (Q:AEx->St R.σ->Prop)=>WpC Tryd.prog R 33 0 33 [1,0,1,0] Q [Kont.blk 0,Kont.seq [1,1]] (St.mk [(0,ah a),(1,ah b),(5,int i64 0)] [] g)) (?_)
 refine(bl krf (fun (i:Nat)=>⟨[(0,ah a),(1,ah b),(5,.int .i64 (i:Int))],[],g⟩) (fun (i:Nat)=>(i<=a.l.length/\∀j,j<i->a.l.getD j 0=b.l.getD j 0)) (fun (i:Nat)=>(a.l.length-i)) 0 (a8 ⟨Af _,Af _,(Ag krf),trivial⟩ rfl rfl) ?_ (fun i hi=>?_))
 ·exact⟨Nat.zero_le _,fun j hj=>absurd hj omg⟩
 ·obtain⟨h1,h2⟩:=hi
  refine vcR [] (lkL [(2,[0,1,5,16]),(4,[0,1,5,27]),(5,[4]),(3,[0,1,5])]) (fun _=>[]) (fun Q=>(fun (u1:Bool)=>(fun (u2:Int)=>(u1=true->Flw Tryd.prog/\(0<=u2/\u2<(↑(List.length a.l):Int))/\1<=1/\(0<=u2/\u2<(↑(List.length b.l):Int))/\1<=1/\((List.getD a.l i 0 != List.getD b.l i 0)=true->Q AEx.ret (St.mk [(4,AV.bool false)] [] g))/\((List.getD a.l i 0 != List.getD b.l i 0)=false->(-9223372036854775808<=u2+1/\u2+1<=9223372036854775807)/\Q AEx.normal (St.mk [(0,ah a),(1,ah b),(5,int i64 (u2+1))] [] g)))/\(u1=false->Q (AEx.exit 0) (St.mk [(0,ah a),(1,ah b),(5,int i64 u2),(16,AV.bool u1)] [] g))) ((↑i:Int))) (bif decide ((↑i:Int)<(↑(List.length a.l):Int)) then(↑(List.length a.l):Int)==(↑(List.length b.l):Int) else false)) ⟨fun c1=>have c1:(↑i:Int)<(↑(List.length a.l):Int)/\(↑(List.length a.l):Int)=(↑(List.length b.l):Int):=⟨(of_decide_eq_true (ek c1).1),(beq_iff_eq.mp (ek c1).2)⟩;⟨krf,omg,omg,omg,omg,fun c2=>have c2:¬List.getD a.l i 0=List.getD b.l i 0:=(bne_iff_ne.mp c2);?_,fun c2=>have c2:List.getD a.l i 0=List.getD b.l i 0:=(bne_eq_false_iff_eq.mp c2);⟨omg,?_⟩⟩,fun c1=>have c1:¬(↑i:Int)<(↑(List.length a.l):Int)∨¬(↑(List.length a.l):Int)=(↑(List.length b.l):Int):=((io c1).imp (fun h=>(of_decide_eq_false h)) (fun h=>(beq_eq_false_iff_ne.mp h)));?_⟩
  ·refine⟨_,Ar _,(av (aS _ _ rfl trivial rfl rfl rfl) (Ag ?_))⟩
   show(AV.bool false)=_
   congr 1
   have:a.l≠b.l:=nv (j:=i) (d:=0) c2
   simp[this]
  ·refine(aU (i+1) (a8 ⟨Af _,Af _,(Ag krf),trivial⟩ rfl rfl) ?_ ?_)
   ·refine⟨omg,fun j hj=>?_⟩
    rcases Nat.lt_or_ge j i with h|h
    ·exact h2 j h
    ·have:j=i:=by omega
     subst this;exact c2
   ·omega
  ·have c:=c1
   refine⟨_,Ar _,vcR [] (lkL [(6,[4])]) (fun _=>[]) (fun (Q:AEx->St R.σ->Prop)=>Q AEx.ret (St.mk [(4,AV.bool ((↑(List.length a.l):Int)==(↑(List.length b.l):Int)))] [] g)) (?_)⟩
   refine(av (aS _ _ rfl trivial rfl rfl rfl) (Ag ?_))
   show(AV.bool ((↑(List.length a.l):Int)==(↑(List.length b.l):Int)))=_
   congr 1
   by_cases hab:a.l.length=b.l.length
   ·have:a.l=b.l:=nu 0 hab (fun j hj=>h2 j omg)
    simp[this]
   ·have:a.l≠b.l:=fun e=>hab (by rw[e])
    simp[this]
    omega
theorem wy (R:Res)(a b:KL Int)(hp:List AObj)(g:R.σ)(hl:a.l.length<1000000):Does Tryd.prog R 21 [ah a,ah b] hp g (.ret (.bool (decide (a.l=b.l)))) hp g:=by
 refine bN (fun R g=>?_) (by exact⟨trivial,trivial,trivial⟩) R hp g
 refine spW (nt:=33) (rs:=[.tmp 4]) (k0:=0) ?_
 refine vcR [] (lkL [(0,[0,1]),(1,[0,1,5])]) (fun _=>[]) (fun (Q:AEx->St R.σ->Prop)=>WpC Tryd.prog R 33 0 21 [1,0,1,0] Q [Kont.blk 0,Kont.seq [1,1]] (St.mk [(0,ah a),(1,ah b),(5,int i64 0)] [] g)) (?_)
 refine(bl krf (fun (i:Nat)=>⟨[(0,ah a),(1,ah b),(5,.int .i64 (i:Int))],[],g⟩) (fun (i:Nat)=>(i<=a.l.length/\∀j,j<i->a.l.getD j 0=b.l.getD j 0)) (fun (i:Nat)=>(a.l.length-i)) 0 (a8 ⟨Af _,Af _,(Ag krf),trivial⟩ rfl rfl) ?_ (fun i hi=>?_))
 ·exact⟨Nat.zero_le _,fun j hj=>absurd hj omg⟩
 ·obtain⟨h1,h2⟩:=hi
  refine vcR [] (lkL [(2,[0,1,5,16]),(4,[0,1,5,27]),(5,[4]),(3,[0,1,5])]) (fun _=>[]) (fun Q=>(fun (u1:Bool)=>(fun (u2:Int)=>(u1=true->Flw Tryd.prog/\(0<=u2/\u2<(↑(List.length a.l):Int))/\1<=1/\(0<=u2/\u2<(↑(List.length b.l):Int))/\1<=1/\((List.getD a.l i 0 != List.getD b.l i 0)=true->Q AEx.ret (St.mk [(4,AV.bool false)] [] g))/\((List.getD a.l i 0 != List.getD b.l i 0)=false->(-9223372036854775808<=u2+1/\u2+1<=9223372036854775807)/\Q AEx.normal (St.mk [(0,ah a),(1,ah b),(5,int i64 (u2+1))] [] g)))/\(u1=false->Q (AEx.exit 0) (St.mk [(0,ah a),(1,ah b),(5,int i64 u2),(16,AV.bool u1)] [] g))) ((↑i:Int))) (bif decide ((↑i:Int)<(↑(List.length a.l):Int)) then(↑(List.length a.l):Int)==(↑(List.length b.l):Int) else false)) ⟨fun c1=>have c1:(↑i:Int)<(↑(List.length a.l):Int)/\(↑(List.length a.l):Int)=(↑(List.length b.l):Int):=⟨(of_decide_eq_true (ek c1).1),(beq_iff_eq.mp (ek c1).2)⟩;⟨krf,omg,omg,omg,omg,fun c2=>have c2:¬List.getD a.l i 0=List.getD b.l i 0:=(bne_iff_ne.mp c2);?_,fun c2=>have c2:List.getD a.l i 0=List.getD b.l i 0:=(bne_eq_false_iff_eq.mp c2);⟨omg,?_⟩⟩,fun c1=>have c1:¬(↑i:Int)<(↑(List.length a.l):Int)∨¬(↑(List.length a.l):Int)=(↑(List.length b.l):Int):=((io c1).imp (fun h=>(of_decide_eq_false h)) (fun h=>(beq_eq_false_iff_ne.mp h)));?_⟩
  ·refine⟨_,Ar _,(av (aS _ _ rfl trivial rfl rfl rfl) (Ag ?_))⟩
   show(AV.bool false)=_
   congr 1
   have:a.l≠b.l:=nv (j:=i) (d:=0) c2
   simp[this]
  ·refine(aU (i+1) (a8 ⟨Af _,Af _,(Ag krf),trivial⟩ rfl rfl) ?_ ?_)
   ·refine⟨omg,fun j hj=>?_⟩
    rcases Nat.lt_or_ge j i with h|h
    ·exact h2 j h
    ·have:j=i:=by omega
     subst this;exact c2
   ·omega
  ·have c:=c1
   refine⟨_,Ar _,vcR [] (lkL [(6,[4])]) (fun _=>[]) (fun (Q:AEx->St R.σ->Prop)=>Q AEx.ret (St.mk [(4,AV.bool ((↑(List.length a.l):Int)==(↑(List.length b.l):Int)))] [] g)) (?_)⟩
   refine(av (aS _ _ rfl trivial rfl rfl rfl) (Ag ?_))
   show(AV.bool ((↑(List.length a.l):Int)==(↑(List.length b.l):Int)))=_
   congr 1
   by_cases hab:a.l.length=b.l.length
   ·have:a.l=b.l:=nu 0 hab (fun j hj=>h2 j omg)
    simp[this]
   ·have:a.l≠b.l:=fun e=>hab (by rw[e])
    simp[this]
    omega
def dp (s:Step):Int × List Int:=(s.rule,s.atoms.l)
theorem qY (R:Res)(a b:KL Step)(hp:List AObj)(g:R.σ)(hl:a.l.length<1000000)(ha:∀i,(a.l.getD i default).atoms.l.length<1000000):Does Tryd.prog R 20 [aC a,aC b] hp g (.ret (.bool (decide (a.l.map dp=b.l.map dp)))) hp g:=by
 have key:∀(l:List Step) i,i<l.length->(l.map dp).getD i (0,[])=dp (l.getD i default):=fun l i hi=>by
  rw[List.getD_eq_getElem?_getD,List.getElem?_map,List.getD_eq_getElem?_getD,List.getElem?_eq_getElem hi]
  rfl
 refine bN (fun R g=>?_) (by exact⟨trivial,trivial,trivial⟩) R hp g
 refine spW (nt:=49) (rs:=[.tmp 4]) (k0:=0) ?_
 refine vcR [] (lkL [(0,[0,1]),(1,[0,1,5])]) (fun _=>[]) (fun (Q:AEx->St R.σ->Prop)=>WpC Tryd.prog R 49 0 20 [1,0,1,0] Q [Kont.blk 0,Kont.seq [1,1]] (St.mk [(0,aC a),(1,aC b),(5,int i64 0)] [] g)) (?_)
 refine(bl krf (fun (i:Nat)=>⟨[(0,aC a),(1,aC b),(5,.int .i64 (i:Int))],[],g⟩) (fun (i:Nat)=>(i<=a.l.length/\∀j,j<i->dp (a.l.getD j default)=dp (b.l.getD j default))) (fun (i:Nat)=>(a.l.length-i)) 0 (a8 ⟨Af _,Af _,(Ag krf),trivial⟩ rfl rfl) ?_ (fun i hi=>?_))
 ·exact⟨Nat.zero_le _,fun j hj=>absurd hj omg⟩
 ·obtain⟨h1,h2⟩:=hi
  have w:=ha i
  refine vcR [] (lkL [(2,[0,1,5,16]),(4,[0,1,5,43]),(5,[4]),(3,[0,1,5])]) (lkL [(4,[(22,ROrc.pcall (AV.bool (decide ((List.getD a.l i default).atoms.l=(List.getD b.l i default).atoms.l))))])]) (fun Q=>(fun (u1:Bool)=>(fun (u2:Bool)=>(fun (u3:KL Int)=>(fun (u4:KL Int)=>(fun (u5:Int)=>(u2=true->Flw Tryd.prog/\(0<=u5/\u5<(↑(List.length a.l):Int))/\1<=2/\(0<=u5/\u5<(↑(List.length b.l):Int))/\1<=2/\((!u1)=true->0<=u5/\u5<(↑(List.length a.l):Int))/\((!u1)=true->1<=1)/\((!u1)=true->0<=u5/\u5<(↑(List.length b.l):Int))/\((!u1)=true->1<=1)/\((!u1)=true->∀(hp:List AObj) (g:R.σ),true=true/\Does Tryd.prog R 33 [ah u3,ah u4] hp g (ret (AV.bool (decide (u3.l=u4.l)))) hp g)/\((bif u1 then true else !decide (u3.l=u4.l))=true->Q AEx.ret (St.mk [(4,AV.bool false)] [] g))/\((bif u1 then true else !decide (u3.l=u4.l))=false->(-9223372036854775808<=u5+1/\u5+1<=9223372036854775807)/\Q AEx.normal (St.mk [(0,aC a),(1,aC b),(5,int i64 (u5+1))] [] g)))/\(u2=false->Q (AEx.exit 0) (St.mk [(0,aC a),(1,aC b),(5,int i64 u5),(16,AV.bool u2)] [] g))) ((↑i:Int))) ((List.getD b.l i default).atoms)) ((List.getD a.l i default).atoms)) (bif decide ((↑i:Int)<(↑(List.length a.l):Int)) then(↑(List.length a.l):Int)==(↑(List.length b.l):Int) else false)) ((List.getD a.l i default).rule != (List.getD b.l i default).rule)) ⟨fun c1=>have c1:(↑i:Int)<(↑(List.length a.l):Int)/\(↑(List.length a.l):Int)=(↑(List.length b.l):Int):=⟨(of_decide_eq_true (ek c1).1),(beq_iff_eq.mp (ek c1).2)⟩;⟨krf,omg,omg,omg,omg,omg,omg,omg,omg,(fun hgd=>(fun _ _=>⟨rfl,(qX _ _ _ _ _ omg)⟩)),fun c2=>have c2:¬(List.getD a.l i default).rule=(List.getD b.l i default).rule∨¬(List.getD a.l i default).atoms.l=(List.getD b.l i default).atoms.l:=((fw c2).imp (fun h=>(bne_iff_ne.mp h)) (fun h=>(of_decide_eq_false ((Bool.not_eq_true' _).mp h))));?_,fun c2=>have c2:(List.getD a.l i default).rule=(List.getD b.l i default).rule/\(List.getD a.l i default).atoms.l=(List.getD b.l i default).atoms.l:=⟨(bne_eq_false_iff_eq.mp (cI c2).1),(of_decide_eq_true ((Bool.not_eq_false' _).mp (cI c2).2))⟩;⟨omg,?_⟩⟩,fun c1=>have c1:¬(↑i:Int)<(↑(List.length a.l):Int)∨¬(↑(List.length a.l):Int)=(↑(List.length b.l):Int):=((io c1).imp (fun h=>(of_decide_eq_false h)) (fun h=>(beq_eq_false_iff_ne.mp h)));?_⟩
  ·refine⟨_,Ar _,(av (aS _ _ rfl trivial rfl rfl rfl) (Ag ?_))⟩
   show(AV.bool false)=_
   congr 1
   have hab:a.l.length=b.l.length:=by omega
   have:a.l.map dp≠b.l.map dp:=nv (j:=i) (d:=(0,[])) (by
    rw[key _ _ omg,key _ _ omg]
    intro e
    have e1:=congrArg Prod.fst e
    have e2:=congrArg Prod.snd e
    rcases c2 with h|h
    ·exact h e1
    ·exact h e2)
   simp[this]
  ·refine(aU (i+1) (a8 ⟨Af _,Af _,(Ag krf),trivial⟩ rfl rfl) ?_ ?_)
   ·refine⟨omg,fun j hj=>?_⟩
    rcases Nat.lt_or_ge j i with h|h
    ·exact h2 j h
    ·have:j=i:=by omega
     subst this
     exact Prod.ext c2.1 c2.2
   ·omega
  ·have c:=c1
   refine⟨_,Ar _,vcR [] (lkL [(6,[4])]) (fun _=>[]) (fun (Q:AEx->St R.σ->Prop)=>Q AEx.ret (St.mk [(4,AV.bool ((↑(List.length a.l):Int)==(↑(List.length b.l):Int)))] [] g)) (?_)⟩
   refine(av (aS _ _ rfl trivial rfl rfl rfl) (Ag ?_))
   show(AV.bool ((↑(List.length a.l):Int)==(↑(List.length b.l):Int)))=_
   congr 1
   by_cases hab:a.l.length=b.l.length
   ·have:a.l.map dp=b.l.map dp:=nu (0,[]) (by rw[List.length_map,List.length_map,hab]) (fun j hj=>by
     rw[List.length_map] at hj
     rw[key _ _ hj,key _ _ omg]
     exact h2 j omg)
    simp[this,hab]
   ·have:a.l.map dp≠b.l.map dp:=fun e=>hab (by have:=congrArg List.length e;simpa using this)
    simp[this]
    omega
def gD:List Int:=[0,1,56,2,57,49,28,3,61,58,42,50,38,29,17,4,62,47,59,36,45,43,51,22,53,39,33,30,24,18,12,5,63,55,48,27,60,41,37,16,46,35,44,21,52,32,23,11,54,26,40,15,34,20,31,10,25,14,19,9,13,8,7,6]
abbrev gsT:List (Nat × List Int):=[(0,gD)]
abbrev LT:Mem->Prop:=cP gsT
def iA (s:Nat):Int:=Int.fdiv (IntKind.wrap .u64 (IntKind.wrap .u64 (↑(BitVec.toNat (BitVec.ofInt 64 (↑s:Int)&&&BitVec.ofInt 64 (IntKind.wrap .u64 (0-(↑s:Int))))):Int)*285870213051353865)) (2^58)
def fZ (k:Nat):Int:=Int.fdiv (IntKind.wrap .u64 (((2^k:Nat):Int)*285870213051353865)) (2^58)
theorem wz {k:Nat}(hk:k<24):0<=fZ k/\fZ k<64/\gD.getD (fZ k).toNat 0=(k:Int):=by
 have h:(List.range 24).all (fun k=>decide (0<=fZ k/\fZ k<64/\gD.getD (fZ k).toNat 0=(k:Int)))=true:=by decide +kernel
 exact of_decide_eq_true ((List.all_eq_true.1 h) k (List.mem_range.2 hk))
theorem bC {s:Nat}(hs:s<2^24):s<2^64:=Nat.lt_trans hs dcd
theorem wA {s k m:Nat}(h:s=2^k*(2*m+1))(hs:s<2^24):0<=iA s/\iA s<64/\gD.getD (iA s).toNat 0=(k:Int):=by
 have e:iA s=fZ k:=by
  unfold iA fZ
  rw[Tb.u64_low h (bC hs)]
 rw[e]
 exact wz (Tb.low_lt h hs)
abbrev ai (s:Nat):List Nat:=Tb.memN 24 s
def gE (s:Nat):Nat:=(ai s).headD 0
theorem ld {s k m:Nat}(h:s=2^k*(2*m+1))(hs:s<2^24):gE s=k:=by
 unfold gE ai
 rw[Tb.mem_low h (Tb.low_lt h hs)]
 rfl
theorem qZ (R:Res)[Tab LT R](s:Nat)(h0:0<s)(hs:s<2^24)(g:R.σ):Does Tryd.prog R 106 [.int .u64 s] [] g (.ret (.int .i64 (gE s))) [] g:=by
 obtain⟨k,m,h⟩:=Tb.low_of h0
 rw[ld h hs]
 have hk:=Tb.low_lt h hs
 have hI:=wA h hs
 refine spW (nt:=14) (rs:=[.tmp 2]) (k0:=0) ?_
 refine vcR [] (lkL [(0,[0]),(1,[0,4]),(2,[2]),(3,[2])]) (lkL [(3,[(6,ROrc.kop (fp 1 fun (x:Nat)=>int IntKind.u8 (↑k:Int)))])]) (fun Q=>(fun (u1:Int)=>(fun (u2:Int)=>((u2==0)=true->Q AEx.ret (St.mk [(2,int i64 64)] [] g))/\((u2==0)=false->(↑0:Int)<=58/\OpOk Tryd.prog R (Oper.mk (some 11) (Op.indexAddr 164 (Operand.global 0) (Operand.tmp 10)) 0 "bits.go:105" #[Edge.mk 5 Ground.data] none) (evO [Row.mk (some 10) none (int u64 (Int.fdiv (IntKind.wrap u64 (u1*285870213051353865)) (2^58))) false (some []) [],Row.mk (some 9) none (int u64 (IntKind.wrap u64 (u1*285870213051353865))) false (some []) [],Row.mk (some 8) none (int u64 u1) false (some []) [],Row.mk (some 7) none (int u64 (IntKind.wrap u64 (0-u2))) false (some []) [],Row.mk (some 6) none (int u64 u2) false (some []) [],Row.mk (some 5) none (int u64 u2) false (some []) []] [(0,int u64 u2),(4,AV.bool (u2==0))] []) [] g (fp 1 fun x=>int IntKind.u8 (↑k:Int)) [] g/\1<=1/\Q AEx.ret (St.mk [(2,int i64 (IntKind.wrap i64 (↑k:Int)))] [] g))) ((↑s:Int))) (IntKind.wrap u64 (↑(BitVec.toNat (BitVec.ofInt 64 (↑s:Int)&&&BitVec.ofInt 64 (IntKind.wrap u64 (0-(↑s:Int))))):Int))) ⟨fun c1=>have c1:(↑s:Int)=0:=(beq_iff_eq.mp c1);?_,fun c1=>have c1:¬(↑s:Int)=0:=(beq_eq_false_iff_ne.mp c1);⟨omg,?_,omg,?_⟩⟩
 ·exact absurd c1 omg
 ·exact vx (gs:=gsT) 0 gD (by simp) rfl rfl rfl (i:=iA s) rfl krf hI.1 (by rw[show(gD.length:Int)=64 from rfl];exact hI.2.1) hI.2.2
 ·refine(av (aS _ _ rfl trivial rfl rfl rfl) (Ag ?_))
  show(int i64 (IntKind.wrap i64 (↑k:Int)))=_
  show AV.int .i64 _=AV.int .i64 _
  congr 1
  rw[IntKind.wrap_i64]
  omega
theorem gF (R:Res)(a:Nat)(ha:a<25)(hp:List AObj)(g:R.σ):Does Tryd.prog R 79 [.int .i64 a] hp g (.ret (.int .u64 ((2^a:Nat):Int))) hp g:=by
 refine bN (fun R g=>?_) (by exact⟨trivial,trivial⟩) R hp g
 refine spW (nt:=5) (rs:=[.tmp 2]) (k0:=0) ?_
 refine vcR [] (lkL [(0,[0]),(1,[2])]) (fun _=>[]) (fun Q=>0<=(↑a:Int)/\Q AEx.ret (St.mk [(2,int u64 (IntKind.wrap u64 (1*2^min a 64)))] [] g)) ⟨omg,?_⟩
 refine(av (aS _ _ rfl trivial rfl rfl rfl) (Ag ?_))
 show(int u64 (IntKind.wrap u64 (1*2^min a 64)))=_
 show AV.int .u64 _=AV.int .u64 _
 congr 1
 have h:(List.range 25).all (fun a=>decide (IntKind.u64.wrap (1*2^(min (a:Int).toNat 64))=((2^a:Nat):Int)))=true:=by decide +kernel
 exact of_decide_eq_true ((List.all_eq_true.1 h) a (List.mem_range.2 ha))
theorem wB {s a:Nat}(hs:s<2^64)(ha:a<64):(IntKind.u64.wrap ↑(BitVec.ofInt 64 ((s:Int).fdiv (2^min a 64))&&&BitVec.ofInt 64 1).toNat==1)=s.testBit a:=by
 have e:(s:Int).fdiv (2^min a 64)=((s/2^a:Nat):Int):=by
  rw[Nat.min_eq_left omg,Int.ofNat_fdiv]
  rfl
 have h1:s/2^a<2^64:=Nat.lt_of_le_of_lt (Nat.div_le_self _ _) hs
 rw[e,show BitVec.ofInt 64 1=BitVec.ofInt 64 ((1:Nat):Int) from rfl,Tb.u64_and h1 dcd,Nat.and_one_is_mod,Nat.testBit_eq_decide_div_mod_eq]
 rw[Bool.eq_iff_iff,beq_iff_eq,decide_eq_true_iff]
 omega
theorem jI (R:Res)(s a:Nat)(hs:s<2^24)(ha:a<24)(hp:List AObj)(g:R.σ):Does Tryd.prog R 71 [.int .u64 s,.int .i64 a] hp g (.ret (.bool (s.testBit a))) hp g:=by
 refine bN (fun R g=>?_) (by exact⟨trivial,trivial,trivial⟩) R hp g
 refine spW (nt:=10) (rs:=[.tmp 4]) (k0:=0) ?_
 refine vcR [] (lkL [(0,[0,1]),(1,[4])]) (fun _=>[]) (fun Q=>0<=(↑a:Int)/\Q AEx.ret (St.mk [(4,AV.bool (IntKind.wrap u64 (↑(BitVec.toNat (BitVec.ofInt 64 (Int.fdiv (↑s:Int) (2^min a 64))&&&BitVec.ofInt 64 1)):Int)==1))] [] g)) ⟨omg,?_⟩
 refine(av (aS _ _ rfl trivial rfl rfl rfl) (Ag ?_))
 show(AV.bool (IntKind.wrap u64 (↑(BitVec.toNat (BitVec.ofInt 64 (Int.fdiv (↑s:Int) (2^min a 64))&&&BitVec.ofInt 64 1)):Int)==1))=_
 show AV.bool _=AV.bool _
 congr 1
 exact wB (bC hs) omg
theorem wC (R:Res)(n:Nat)(hn:n<=24)(hp:List AObj)(g:R.σ):Does Tryd.prog R 83 [.int .i64 n] hp g (.ret (.int .u64 ((2^n-1:Nat):Int))) hp g:=by
 refine bN (fun R g=>?_) (by exact⟨trivial,trivial⟩) R hp g
 refine spW (nt:=6) (rs:=[.tmp 2]) (k0:=0) ?_
 refine vcR [] (lkL [(0,[0]),(1,[2])]) (lkL [(1,[(1,ROrc.pcall (int u64 (↑(2^n):Int)))])]) (fun Q=>(∀(hp:List AObj) (g:R.σ),true=true/\Does Tryd.prog R 79 [int i64 (↑n:Int)] hp g (ret (int u64 (↑(2^n):Int))) hp g)/\Q AEx.ret (St.mk [(2,int u64 (IntKind.wrap u64 ((↑(2^n):Int)-1)))] [] g)) ⟨(fun _ _=>⟨rfl,(gF _ _ omg _ _)⟩),?_⟩
 ·refine(av (aS _ _ rfl trivial rfl rfl rfl) (Ag ?_))
  show(int u64 (IntKind.wrap u64 (2^n-1)))=_
  show AV.int .u64 _=AV.int .u64 _
  congr 1
  exact Tb.u64_sub (t:=1) (Nat.pow_lt_pow_right dcd omg) (Nat.pow_pos dcd)
theorem wD (R:Res)(s:Nat)(g:R.σ):Does Tryd.prog R 77 [.int .u64 s] [] g (.ret (.fn 105 0 (nth []) 1 (nth [.ref 0 0]))) [.cells false 1 (fun _=>.int .u64 s)] g:=by
 refine spW (nt:=4) (rs:=[.tmp 2]) (k0:=0) ?_
 refine vcR [] (lkL [(0,[1]),(1,[2])]) (fun _=>[]) (fun (Q:AEx->St R.σ->Prop)=>Q AEx.ret (St.mk [(2,fn 105 0 (nth []) 1 (nth [ref 0 0]))] [cells false 1 fun (a:Nat)=>int u64 (↑s:Int)] g)) (?_)
 refine(av (aS _ _ rfl trivial rfl rfl rfl) (Af _))
theorem ny:∀hp:List AObj,leH hp hp
 |[]=>trivial
 |x::r=>⟨Ai x,ny r⟩
theorem cQ (R:Res)(s:Nat)(hp:List AObj)(g:R.σ):Does Tryd.prog R 77 [.int .u64 s] hp g (.ret (.fn 105 0 (nth []) 1 (nth [.ref hp.length 0]))) (hp++[.cells false 1 (fun _=>.int .u64 s)]) g:=
 eW [] hp.length (fun R g=>wD R s g) rfl rfl rfl trivial trivial ⟨Af _,trivial⟩ (Le.fn (fun i hi=>absurd hi (Nat.not_lt_zero i)) (fun i hi=>by
  have:i=0:=by omega
  subst this
  exact Af _)) (ny _)
theorem q0 {c:Nat->Bool}{n k:Nat}(h:∀j,j<k->c j=true)(hk:k<n)(hc:c k=false):eY c n 0=k+1:=by
 rcases kH c n 0 with⟨h1,_⟩|⟨i,_,h2,h3,h4,h5⟩
 ·rw[h1 k omg omg] at hc;cases hc
 ·rw[h5]
  rcases Nat.lt_trichotomy i k with hl|hl|hl
  ·rw[h i hl] at h4;cases h4
  ·rw[hl]
  ·rw[h3 k omg hl] at hc;cases hc
theorem wE {c:Nat->Bool}{n:Nat}(h:∀j,j<n->c j=true):eY c n 0=n:=by
 rcases kH c n 0 with⟨_,h2⟩|⟨i,_,h2,_,h4,_⟩
 ·omega
 ·rw[h i omg] at h4;cases h4
def jJ (s:Nat)(c:Nat->Bool):Nat:=if (List.range (ai s).length).all c then Tb.cutN s (ai s).length else Tb.cutN s (eY c (ai s).length 0-1)
theorem wF {s:Nat}{c:Nat->Bool}{k:Nat}(h:∀j,j<k->c j=true)(hk:k<(ai s).length)(hc:c k=false):jJ s c=Tb.cutN s k:=by
 have e:(List.range (ai s).length).all c=false:=by
  rw[List.all_eq_false]
  exact⟨k,by simpa using hk,by simp[hc]⟩
 unfold jJ
 rw[e,q0 h hk hc]
 rfl
theorem wG {s:Nat}{c:Nat->Bool}(h:∀j,j<(ai s).length->c j=true):jJ s c=Tb.cutN s (ai s).length:=by
 have e:(List.range (ai s).length).all c=true:=by
  rw[List.all_eq_true]
  intro j hj
  exact h j (by simpa using hj)
 unfold jJ
 rw[e]
 rfl
theorem lf (s:Nat)(hs:s<2^24):SeqO Tryd.prog 105 (.cells false 1 (fun _=>.int .u64 s)) (ai s).length (fun k=>[.int .i64 ((ai s).getD k 0)]) LT:=by
 refine⟨fun R _ u G c hu=>⟨[.cells false 1 (fun _=>.int .u64 (jJ s c))],rfl,?_⟩⟩
 refine spW (nt:=14) (rs:=[]) (k0:=1) ?_
 refine vcR [] (lkL []) (fun _=>[]) (fun (Q:AEx->St R.σ->Prop)=>WpC Tryd.prog R 14 1 105 [0] Q [Kont.blk 0] (St.mk [(0,val u),(1,ref 0 0)] [cells false 1 fun (x:Nat)=>int u64 (↑s:Int)] (G 0))) (?_)
 refine(bl krf (fun (k:Nat)=>⟨[(0,val u),(1,ref 0 0)],[.cells false 1 (fun _=>.int .u64 (Tb.cutN s k))],(G k)⟩) (fun (k:Nat)=>(k<=(ai s).length/\∀j,j<k->c j=true)) (fun (k:Nat)=>((ai s).length-k)) 0 (toL) ?_ (fun k hi=>?_))
 ·exact⟨Nat.zero_le _,fun j hj=>absurd hj omg⟩
 ·obtain⟨h1,h2⟩:=hi
  have hlt:=Tb.cutN_lt hs k
  rcases Nat.lt_or_ge k (ai s).length with hk|hk
  ·obtain⟨m,hm⟩:=Tb.cutN_in hs hk
   have hy:=hu k hk (fun j hj=>h2 j hj)
   obtain⟨q,hq⟩:∃q,(ai s).getD k 0=q:=⟨_,rfl⟩
   rw[hq] at hy hm
   have hpos:0<Tb.cutN s k:=by
    rw[hm]
    exact Nat.mul_pos (Nat.pow_pos dcd) omg
   have hb:(((Tb.cutN s k:Nat):Int) != 0)=true:=by
    rw[bne_iff_ne];omega
   rw[<-ld hm hlt] at hy
   refine vcR [[0,0,0,1,1]] (lkL [(0,[0,1,4]),(2,[0,1,13]),(1,[0,1])]) (lkL [(2,[(2,ROrc.kcall (int i64 (↑(gE (Tb.cutN s k)):Int))),(3,ROrc.gcall (AV.bool (c k)) (G (k+1)))]),(1,[(4,ROrc.val (Orc.obj (nth [int u64 (IntKind.wrap u64 (↑(BitVec.toNat (BitVec.ofInt 64 (↑(Tb.cutN s k):Int)&&&BitVec.ofInt 64 (IntKind.wrap u64 ((↑(Tb.cutN s k):Int)-1)))):Int))])))])]) (fun Q=>(fun (u1:Int)=>(fun (u2:AV)=>(fun (u3:List AObj)=>1<=1/\((u1 != 0)=true->1<=1/\(true=true/\Does Tryd.prog R 106 [int u64 u1] u3 (G k) (ret (int i64 (↑(gE (Tb.cutN s k)):Int))) u3 (G k))/\VDoes Tryd.prog R u [int i64 (↑(gE (Tb.cutN s k)):Int)] u3 (G k) (ret (AV.bool (c k))) u3 (G (k+1))/\((!c k)=true->Q AEx.ret (St.mk [(0,val u),(1,ref 0 0),(13,AV.bool !c k)] u3 (G (k+1))))/\((!c k)=false->1<=1/\1<=1/\1<=1/\(∀(c:Nat),c<1->nth [u2] c=aj (fun (x:Nat)=>int u64 u1) 0 1 (fun (x:Nat)=>u2) c)/\Q AEx.normal (St.mk [(0,val u),(1,ref 0 0)] [cells false 1 (nth [u2])] (G (k+1)))))/\((u1 != 0)=false->WpC Tryd.prog R 14 1 105 [0,0,0,1,1] Q [Kont.seq [0,0,1]] (St.mk [(0,val u),(1,ref 0 0),(4,AV.bool (u1 != 0))] u3 (G k)))) ([cells false 1 fun x=>int u64 u1])) (int u64 (IntKind.wrap u64 (↑(BitVec.toNat (BitVec.ofInt 64 u1&&&BitVec.ofInt 64 (IntKind.wrap u64 (u1-1)))):Int)))) ((↑(Tb.cutN s k):Int))) ⟨omg,fun _=>⟨omg,⟨rfl,(doT (T:=LT) [] 1 (fun R _ g=>qZ R (Tb.cutN s k) omg omg g))⟩,(hy _),fun c1=>have c1:c k=false:=((Bool.not_eq_true' _).mp c1);?_,fun c1=>have c1:c k=true:=((Bool.not_eq_false' _).mp c1);⟨omg,omg,omg,(fun c hc=>match c,hc with|0,_=>krf ),?_⟩⟩,fun hcc=>(nomatch (hb.symm.trans hcc))⟩
   ·rw[q0 h2 hk c1,wF h2 hk c1]
    refine⟨_,Ar _,(av (aS _ _ rfl trivial rfl rfl rfl) (Af _))⟩
   ·refine(aU (k+1) (toL (h2:=⟨⟨rfl,Nat.le_refl _,fun j hj=>match j,hj with|0,_=>(Ag ?_) ⟩,trivial⟩)) ?_ ?_)
    ·show AV.int .u64 _=AV.int .u64 _
     congr 1
     exact Tb.u64_cut hpos (bC hlt)
    ·refine⟨omg,fun j hj=>?_⟩
     rcases Nat.lt_or_ge j k with h|h
     ·exact h2 j h
     ·have:j=k:=by omega
      subst this;exact c1
    ·omega
  ·have hk':k=(ai s).length:=by omega
   subst hk'
   have hz:=Tb.cutN_end hs
   have hb:(((Tb.cutN s (ai s).length:Nat):Int) != 0)=false:=by rw[hz];rfl
   refine vcR [[0,0,0,1,0]] (lkL [(0,[0,1,4])]) (fun _=>[]) (fun Q=>(fun (u1:Int)=>(fun (u2:St R.σ)=>1<=1/\((u1 != 0)=true->WpC Tryd.prog R 14 1 105 [0,0,0,1,0] Q [Kont.seq [0,0,1]] u2)/\((u1 != 0)=false->Q (AEx.exit 0) u2)) (St.mk [(0,val u),(1,ref 0 0),(4,AV.bool (u1 != 0))] [cells false 1 fun x=>int u64 u1] (G (List.length (ai s))))) ((↑(Tb.cutN s (List.length (ai s))):Int))) ⟨omg,fun hcc=>(nomatch (hb.symm.trans hcc)),fun _=>?_⟩
   rw[wE h2,wG h2]
   refine⟨_,Ar _,(av (aS _ _ rfl trivial rfl rfl rfl) (Af _))⟩
def jK (v:Nat->Int):AV:=.agg 24 (fun j=>.int .i64 (v j))
theorem qL (v:Nat->Int):Below 0 (jK v):=dV.2 (fun _ _=>trivial)
def lg (k:Nat):Nat->AV:=fun j=>.int .i64 (if j<k then 3 else 0)
theorem q5 {j:Nat}(hj:j<24):nth [.int .i64 0,.int .i64 0,.int .i64 0,.int .i64 0,.int .i64 0,.int .i64 0,.int .i64 0,.int .i64 0,.int .i64 0,.int .i64 0,.int .i64 0,.int .i64 0,.int .i64 0,.int .i64 0,.int .i64 0,.int .i64 0,.int .i64 0,.int .i64 0,.int .i64 0,.int .i64 0,.int .i64 0,.int .i64 0,.int .i64 0,.int .i64 0] j=lg 0 j:=by
 match j,hj with
 |0,_=>rfl
 |1,_=>rfl
 |2,_=>rfl
 |3,_=>rfl
 |4,_=>rfl
 |5,_=>rfl
 |6,_=>rfl
 |7,_=>rfl
 |8,_=>rfl
 |9,_=>rfl
 |10,_=>rfl
 |11,_=>rfl
 |12,_=>rfl
 |13,_=>rfl
 |14,_=>rfl
 |15,_=>rfl
 |16,_=>rfl
 |17,_=>rfl
 |18,_=>rfl
 |19,_=>rfl
 |20,_=>rfl
 |21,_=>rfl
 |22,_=>rfl
 |23,_=>rfl
 |n+24,h=>exact absurd h omg
theorem wH (R:Res)(hp:List AObj)(g:R.σ):Does Tryd.prog R 99 [] hp g (.ret (jK (fun _=>3))) hp g:=by
 refine bN (fun R g=>?_) (by exact trivial) R hp g
 refine spW (nt:=10) (rs:=[.cell 0 95]) (k0:=0) ?_
 refine vcR [] (lkL [(0,[0]),(1,[0,1]),(2,[0,1,3])]) (fun _=>[]) (fun (Q:AEx->St R.σ->Prop)=>WpC Tryd.prog R 10 0 99 [1,1,0,1,0] Q [Kont.blk 0,Kont.seq [1,1,1]] (St.mk [(0,ref 0 0),(1,ref 1 0),(3,int i64 0)] [cells false 24 (nth [int i64 0,int i64 0,int i64 0,int i64 0,int i64 0,int i64 0,int i64 0,int i64 0,int i64 0,int i64 0,int i64 0,int i64 0,int i64 0,int i64 0,int i64 0,int i64 0,int i64 0,int i64 0,int i64 0,int i64 0,int i64 0,int i64 0,int i64 0,int i64 0]),cells false 24 (nth [int i64 0,int i64 0,int i64 0,int i64 0,int i64 0,int i64 0,int i64 0,int i64 0,int i64 0,int i64 0,int i64 0,int i64 0,int i64 0,int i64 0,int i64 0,int i64 0,int i64 0,int i64 0,int i64 0,int i64 0,int i64 0,int i64 0,int i64 0,int i64 0])] g)) (?_)
 refine(bl krf (fun (k:Nat)=>⟨[(0,ref 0 0),(1,ref 1 0),(3,.int .i64 k)],[.cells false 24 (lg 0),.cells false 24 (lg k)],g⟩) (fun (k:Nat)=>(k<=24)) (fun (k:Nat)=>(24-k)) 0 (toL (h1:=⟨Af _,Af _,(Ag krf),trivial⟩) (h2:=⟨(Ap (fun j hj=>?_)),(Ap (fun j hj=>?_)),trivial⟩)) ?_ (fun k hi=>?_))
 ·exact q5 hj
 ·exact q5 hj
 ·omega
 ·refine vcR [] (lkL [(3,[0,1,3,4]),(4,[0,1,2,3]),(5,[0,1,3]),(6,[0,1,3])]) (fun _=>[]) (fun Q=>(fun (u1:Int)=>(fun (u2:AObj)=>(decide (u1<24)=true->(0<=u1/\u1<(↑24:Int))/\k+1<=24/\(-9223372036854775808<=u1+1/\u1+1<=9223372036854775807)/\Q AEx.normal (St.mk [(0,ref 0 0),(1,ref 1 0),(3,int i64 (u1+1))] [u2,cells false 24 (aj (fun (a:Nat)=>int i64 (if a<k then 3 else 0)) k 1 fun x=>int i64 3)] g))/\(decide (u1<24)=false->Q (AEx.exit 0) (St.mk [(0,ref 0 0),(1,ref 1 0),(3,int i64 u1),(4,AV.bool (decide (u1<24)))] [u2,cells false 24 fun a=>int i64 (if a<k then 3 else 0)] g))) (cells false 24 fun a=>int i64 (if a<0 then 3 else 0))) ((↑k:Int))) ⟨fun c1=>have c1:(↑k:Int)<24:=(of_decide_eq_true c1);⟨omg,omg,omg,?_⟩,fun c1=>have c1:¬(↑k:Int)<24:=(of_decide_eq_false c1);?_⟩
  ·refine(aU (k+1) (toL (h1:=⟨Af _,Af _,(Ag krf),trivial⟩) (h2:=⟨Ah,(Ap (fun j hj=>?_)),trivial⟩)) ?_ ?_)
   ·unfold lg
    rw[cY]
    split
    ·have:j=k:=by omega
     subst this
     simp
    ·have:(j<k)=(j<k+1):=by apply propext;omega
     simp only[this]
   ·omega
   ·omega
  ·have hk:k=24:=by omega
   subst hk
   refine⟨_,Ar _,vcR [] (lkL [(7,[0])]) (fun _=>[]) (fun Q=>24<=24/\24<=24/\Q AEx.ret (St.mk [(0,ref 0 0)] [cells false 24 (aj (fun (a:Nat)=>int i64 (if a<0 then 3 else 0)) 0 24 fun j=>int i64 ((fun (j:Nat)=>if j<24 then 3 else 0) j)),cells false 24 fun a=>int i64 (if a<24 then 3 else 0)] g)) ⟨omg,omg,?_⟩⟩
   refine(av (bG (agg 24 (aj (fun (a:Nat)=>int i64 (if a<0 then 3 else 0)) 0 24 fun (j:Nat)=>int i64 (if j<24 then 3 else 0))) ([0+(TyI.mk ((fun (x:TypeInfo)=>x.desc) Tryd.prog.types[94]) Tryd.prog.types[95].size Tryd.prog.types[95].bytes (cg (dg (Value.agg #[Value.int i64 0,Value.int i64 0,Value.int i64 0,Value.int i64 0,Value.int i64 0,Value.int i64 0,Value.int i64 0,Value.int i64 0,Value.int i64 0,Value.int i64 0,Value.int i64 0,Value.int i64 0,Value.int i64 0,Value.int i64 0,Value.int i64 0,Value.int i64 0,Value.int i64 0,Value.int i64 0,Value.int i64 0,Value.int i64 0,Value.int i64 0,Value.int i64 0,Value.int i64 0,Value.int i64 0]))) (cF ((fun (x:TypeInfo)=>x.desc) Tryd.prog.types[94])) (dJ Tryd.prog 95)).size<=24]) krf (by exact⟨dcd,trivial⟩) ⟨⟨⟨⟨⟨⟨⟨⟨⟨⟨⟨⟨⟨⟨⟨⟨⟨⟨⟨⟨⟨⟨⟨⟨trivial,trivial⟩,trivial⟩,trivial⟩,trivial⟩,trivial⟩,trivial⟩,trivial⟩,trivial⟩,trivial⟩,trivial⟩,trivial⟩,trivial⟩,trivial⟩,trivial⟩,trivial⟩,trivial⟩,trivial⟩,trivial⟩,trivial⟩,trivial⟩,trivial⟩,trivial⟩,trivial⟩,trivial⟩ rfl) (Ak (fun j hj=>?_)))
   ·exact Ag (by rw[cY];simp[hj])
def bj (v:Nat->Int)(l:Lit):Int:=if !l.neg||v l.atom.toNat==3 then v l.atom.toNat else if v l.atom.toNat==2 then 1 else 2
def ad (p:Prg)(v:Nat->Int)(m:AV):Nat->AV:=fun j=>if j=0 then .int .i64 p.atoms else if j=1 then ae p.rules else if j<26 then .int .i64 (v (j-2)) else m
theorem dX {p:Prg}{v:Nat->Int}{m:AV}{k j:Nat}(e:k=j+2)(h:j<24):ad p v m k=.int .i64 (v j):=by
 subst e
 unfold ad
 rw[if_neg omg,if_neg omg,if_pos omg]
 rfl
theorem aV (p:Prg)(v:Nat->Int)(k j:Nat):Below (k+2) (ad p v (.mp 1) j):=by
 unfold ad
 split
 ·trivial
 ·split
  ·trivial
  ·split
   ·trivial
   ·exact(Nat.lt_add_left k (Nat.lt_succ_self 1):1<k+2)
theorem cw {f:Nat->Nat}(h:f 1=1){p:Prg}{v:Nat->Int}{j:Nat}:aG f (ad p v (.mp 1) j)=ad p v (.mp 1) j:=by
 unfold ad
 split
 ·rfl
 ·split
  ·rfl
  ·split
   ·rfl
   ·show AV.mp (f 1)=_
    rw[h]
theorem q6 (R:Res)(p:Prg)(v:Nat->Int)(es:List (Value × AV))(l:Lit)(h:0<=l.atom/\l.atom<24)(g:R.σ):Does Tryd.prog R 119 [.ref 0 2,ca l] [.cells false 27 (ad p v (.mp 1)),.map es] g (.ret (.int .i64 (bj v l))) [.cells false 27 (ad p v (.mp 1)),.map es] g:=by
 refine spW (nt:=24) (rs:=[.tmp 4]) (k0:=2) ?_
 refine vcR [] (lkL [(0,[0,3]),(1,[3,5]),(2,[5,12]),(4,[21]),(5,[4]),(3,[4]),(6,[4])]) (lkL [(1,[(5,ROrc.kop (int i64 (v (Int.toNat l.atom))))])]) (fun Q=>(fun (u1:List AObj)=>(fun (u2:Int)=>Flw Tryd.prog/\1<=2/\(0<=l.atom/\l.atom<(↑24:Int))/\OpOk Tryd.prog R (Oper.mk (some 11) (Op.load 43 (Operand.tmp 10)) 43 "table.go:76" #[Edge.mk 4 Ground.data] none) (evO [Row.mk (some 10) none (ref 0 (Int.toNat l.atom+2)) false (some []) [],Row.mk (some 9) none (ref 0 2) false (some []) [],Row.mk (some 8) none (int i64 l.atom) false (some []) [2],Row.mk (some 7) none (ref 2 0) false (some []) [],Row.mk (some 6) none (ref 0 2) false (some []) []] [(0,ref 0 2),(3,ref 2 0)] []) u1 g (int i64 u2) u1 g/\2<=2/\((bif !l.neg then true else u2==3)=true->Q AEx.ret (St.mk [(4,int i64 u2)] u1 g))/\((bif !l.neg then true else u2==3)=false->((u2==2)=true->Q AEx.ret (St.mk [(4,int i64 1)] u1 g))/\((u2==2)=false->Q AEx.ret (St.mk [(4,int i64 2)] u1 g)))) (v (Int.toNat l.atom))) ([cells false 27 (ad p v (AV.mp 1)),AObj.map es,cells false 2 (nth [int i64 l.atom,AV.bool l.neg])])) ⟨krf,omg,omg,?_,omg,fun c1=>have c1:l.neg=false∨v (Int.toNat l.atom)=3:=((fw c1).imp (fun h=>((Bool.not_eq_true' _).mp h)) (fun h=>(beq_iff_eq.mp h)));?_,fun c1=>have c1:l.neg=true/\¬v (Int.toNat l.atom)=3:=⟨((Bool.not_eq_false' _).mp (cI c1).1),(beq_eq_false_iff_ne.mp (cI c1).2)⟩;⟨fun c2=>have c2:v (Int.toNat l.atom)=2:=(beq_iff_eq.mp c2);?_,fun c2=>have c2:¬v (Int.toNat l.atom)=2:=(beq_eq_false_iff_ne.mp c2);?_⟩⟩
 ·exact dC rfl rfl krf rfl (by show _+1<=27;omega) (dX omg omg)
 ·refine(av (bZ 2 _ _ rfl trivial omg trivial ⟨(fun _ _=>(by first|exact trivial|apply aV)),trivial⟩ krf rfl rfl) (Ag ?_))
  show(int i64 (v (Int.toNat l.atom)))=_
  show AV.int .i64 _=AV.int .i64 _
  unfold bj
  rcases c1 with h1|h1 <;> simp[h1]
 ·refine(av (bZ 2 _ _ rfl trivial omg trivial ⟨(fun _ _=>(by first|exact trivial|apply aV)),trivial⟩ krf rfl rfl) (Ag ?_))
  show(int i64 1)=_
  show AV.int .i64 _=AV.int .i64 _
  unfold bj
  simp[c1.1,c2]
 ·refine(av (bZ 2 _ _ rfl trivial omg trivial ⟨(fun _ _=>(by first|exact trivial|apply aV)),trivial⟩ krf rfl rfl) (Ag ?_))
  show(int i64 2)=_
  show AV.int .i64 _=AV.int .i64 _
  unfold bj
  simp[c1.1,c1.2,c2]
theorem wI (R:Res)(p:Prg)(v:Nat->Int)(es:List (Value × AV))(l:Lit)(h:0<=l.atom/\l.atom<24)(g:R.σ):Does Tryd.prog R 118 [ca l,.ref 2 0] [.cells false 27 (ad p v (.mp 1)),.map es,.cells false 1 (fun _=>.ref 0 2)] g (.ret (.bool (bj v l != 2))) [.cells false 27 (ad p v (.mp 1)),.map es,.cells false 1 (fun _=>.ref 0 2)] g:=by
 refine spW (nt:=8) (rs:=[.tmp 3]) (k0:=3) ?_
 refine vcR [] (lkL [(0,[1,2]),(1,[3])]) (lkL [(1,[(2,ROrc.kcall (int i64 (bj v l)))])]) (fun Q=>(fun (u1:List AObj)=>1<=1/\2<=2/\(true=true/\Does Tryd.prog R 119 [ref 0 2,ca l] u1 g (ret (int i64 (bj v l))) u1 g)/\Q AEx.ret (St.mk [(3,AV.bool (bj v l != 2))] u1 g)) ([cells false 27 (ad p v (AV.mp 1)),AObj.map es,cells false 1 fun x=>ref 0 2,cells false 2 (nth [int i64 l.atom,AV.bool l.neg])])) ⟨omg,omg,⟨rfl,(doS [0,1] 4 (fun R g=>q6 R (p) (v) (es) (l) omg g))⟩,?_⟩
 refine(av (bZ 3 _ _ rfl trivial omg trivial ⟨(fun _ _=>(by first|exact trivial|apply aV)),(fun j hj=>match j,hj with|0,_=>(show 1<=3 by omega) ),trivial⟩ krf rfl rfl) (Af _))
def cx (v:Nat->Int)(r:Rule):Bool:= !r.body.l.any (fun l=>bj v l != 2)
def lh (r:Rule):Prop:=r.body.l.length<1000000/\∀l,l∈r.body.l->0<=l.atom/\l.atom<24
theorem lj (R:Res)(p:Prg)(v:Nat->Int)(es:List (Value × AV))(r:Rule)(h:lh r)(g:R.σ):Does Tryd.prog R 114 [.ref 0 2,bQ r] [.cells false 27 (ad p v (.mp 1)),.map es] g (.ret (.bool (cx v r))) [.cells false 27 (ad p v (.mp 1)),.map es] g:=by
 have h1:=h.1
 have hb:=h.2
 refine spW (nt:=10) (rs:=[.tmp 4]) (k0:=2) ?_
 refine vcR [] (lkL [(0,[2,3]),(1,[4])]) (lkL [(1,[(3,ROrc.kcall (AV.bool (List.any r.body.l fun (r:Lit)=>bj v r != 2)))])]) (fun Q=>(fun (u1:List AObj)=>2<=2/\(true=true/\Does Tryd.prog R 50 [ap r.body,fn 118 0 (nth []) 1 (nth [ref 2 0])] u1 g (ret (AV.bool (List.any r.body.l fun (r:Lit)=>bj v r != 2))) u1 g)/\Q AEx.ret (St.mk [(4,AV.bool !List.any r.body.l fun (r:Lit)=>bj v r != 2)] u1 g)) ([cells false 27 (ad p v (AV.mp 1)),AObj.map es,cells false 1 fun a=>ref 0 2,cells false 2 (nth [int i64 r.head,ap r.body])])) ⟨omg,⟨rfl,(jH _ _ _ _ _ _ _ _ _ _ omg krf (fun r _=>(doS [0,1,2] 4 (fun R g=>wI R (p) (v) (es) (r) ?_ g))))⟩,?_⟩
 ·exact hb _ (by assumption)
 ·refine(av (bZ 2 _ _ rfl trivial omg trivial ⟨(fun _ _=>(by first|exact trivial|apply aV)),trivial⟩ krf rfl rfl) (Ag krf))
def aE (v:Nat->Int)(x:Int)(n:Nat):Nat:=(List.range n).foldl (fun s a=>if v a=x then s|||2^a else s) 0
theorem iB (v:Nat->Int)(x:Int)(n:Nat):aE v x (n+1)=if v n=x then aE v x n|||2^n else aE v x n:=by
 unfold aE
 rw[List.range_succ,List.foldl_append]
 rfl
theorem ll (v:Nat->Int)(x:Int)(n:Nat):aE v x n<2^n:=by
 induction n with
 |zero=>exact Nat.zero_lt_one
 |succ n ih=>
  rw[iB]
  have h1:aE v x n<2^(n+1):=Nat.lt_trans ih (Nat.pow_lt_pow_right dcd omg)
  split
  ·exact Nat.or_lt_two_pow h1 (Nat.pow_lt_pow_right dcd omg)
  ·exact h1
theorem wJ (R:Res)(p:Prg)(v:Nat->Int)(es:List (Value × AV))(n:Nat)(x:Int)(h:n<=24)(g:R.σ):Does Tryd.prog R 76 [.ref 0 2,.int .i64 n,.int .i64 x] [.cells false 27 (ad p v (.mp 1)),.map es] g (.ret (.int .u64 (aE v x n))) [.cells false 27 (ad p v (.mp 1)),.map es] g:=by
 refine spW (nt:=26) (rs:=[.tmp 6]) (k0:=2) ?_
 refine vcR [] (lkL [(0,[0,1,2]),(1,[0,1,2,7]),(2,[0,2,7,9,10])]) (fun _=>[]) (fun (Q:AEx->St R.σ->Prop)=>WpC Tryd.prog R 26 2 76 [1,1,0,1,0] Q [Kont.blk 0,Kont.seq [1,1,1]] (St.mk [(0,ref 0 2),(2,int i64 x),(7,int u64 0),(9,int i64 (↑n:Int)),(10,int i64 0)] [cells false 27 (ad p v (AV.mp 1)),AObj.map es] g)) (?_)
 refine(bl krf (fun (k:Nat)=>⟨[(0,ref 0 2),(2,int i64 x),(7,.int .u64 (aE v x k)),(9,int i64 (n:Int)),(10,.int .i64 k)],[cells false 27 (ad p v (AV.mp 1)),AObj.map es],g⟩) (fun (k:Nat)=>(k<=n)) (fun (k:Nat)=>(n-k)) 0 (a8 ⟨Af _,Af _,(Ag krf),Af _,(Ag krf),trivial⟩ rfl rfl) ?_ (fun k hi=>?_))
 ·omega
 ·refine vcR [] (lkL [(3,[0,2,7,9,10,11]),(4,[0,2,7,8,9,10]),(5,[0,2,7,8,9,10,19]),(6,[0,2,7,9,10]),(7,[0,2,7,9,10])]) (lkL [(5,[(4,ROrc.kop (int i64 (v k)))]),(6,[(2,ROrc.pcall (int u64 (↑(2^k):Int)))])]) (fun Q=>(fun (u1:List AObj)=>(fun (u2:Int)=>(fun (u3:Int)=>(fun (u4:Int)=>(decide (u2<u3)=true->(0<=u2/\u2<(↑24:Int))/\OpOk Tryd.prog R (Oper.mk (some 17) (Op.load 43 (Operand.tmp 16)) 43 "table.go:67" #[Edge.mk 3 Ground.data] none) (evO [Row.mk (some 16) none (ref 0 (k+2)) false (some []) [],Row.mk (some 15) none (ref 0 2) false (some []) [],Row.mk (some 14) none (int i64 u2) false (some []) [],Row.mk (some 13) none (ref 0 2) false (some []) []] [(0,ref 0 2),(2,int i64 x),(7,int u64 u4),(8,int i64 u2),(9,int i64 u3),(10,int i64 u2)] []) u1 g (int i64 (v k)) u1 g/\((v k==x)=true->(∀(hp:List AObj) (g:R.σ),true=true/\Does Tryd.prog R 79 [int i64 u2] hp g (ret (int u64 (↑(2^k):Int))) hp g)/\(-9223372036854775808<=u2+1/\u2+1<=9223372036854775807)/\Q AEx.normal (St.mk [(0,ref 0 2),(2,int i64 x),(7,int u64 (IntKind.wrap u64 (↑(BitVec.toNat (BitVec.ofInt 64 u4|||BitVec.ofInt 64 (↑(2^k):Int))):Int))),(9,int i64 u3),(10,int i64 (u2+1))] u1 g))/\((v k==x)=false->(-9223372036854775808<=u2+1/\u2+1<=9223372036854775807)/\Q AEx.normal (St.mk [(0,ref 0 2),(2,int i64 x),(7,int u64 u4),(9,int i64 u3),(10,int i64 (u2+1))] u1 g)))/\(decide (u2<u3)=false->Q (AEx.exit 0) (St.mk [(0,ref 0 2),(2,int i64 x),(7,int u64 u4),(9,int i64 u3),(10,int i64 u2),(11,AV.bool (decide (u2<u3)))] u1 g))) ((↑(aE v x k):Int))) ((↑n:Int))) ((↑k:Int))) ([cells false 27 (ad p v (AV.mp 1)),AObj.map es])) ⟨fun c1=>have c1:(↑k:Int)<(↑n:Int):=(of_decide_eq_true c1);⟨omg,?_,fun c2=>have c2:v k=x:=(beq_iff_eq.mp c2);⟨(fun _ _=>⟨rfl,(gF _ _ omg _ _)⟩),omg,?_⟩,fun c2=>have c2:¬v k=x:=(beq_eq_false_iff_ne.mp c2);⟨omg,?_⟩⟩,fun c1=>have c1:¬(↑k:Int)<(↑n:Int):=(of_decide_eq_false c1);?_⟩
  ·exact dC rfl rfl krf rfl (by show _+1<=27;omega) (dX omg omg)
  ·refine(aU (k+1) (a8 ⟨Af _,Af _,(Ag ?_),Af _,(Ag krf),trivial⟩ rfl rfl) ?_ ?_)
   ·show AV.int .u64 _=AV.int .u64 _
    congr 1
    rw[iB,if_pos c2]
    exact Tb.u64_or (bC (Nat.lt_of_lt_of_le (ll v x k) (Nat.pow_le_pow_right dcd omg))) (bC (Nat.pow_lt_pow_right dcd omg))
   ·omega
   ·omega
  ·refine(aU (k+1) (a8 ⟨Af _,Af _,(Ag ?_),Af _,(Ag krf),trivial⟩ rfl rfl) ?_ ?_)
   ·show AV.int .u64 _=AV.int .u64 _
    rw[iB,if_neg c2]
   ·omega
   ·omega
  ·have hk:k=n:=by omega
   subst hk
   refine⟨_,Ar _,vcR [] (lkL [(8,[6])]) (fun _=>[]) (fun (Q:AEx->St R.σ->Prop)=>Q AEx.ret (St.mk [(6,int u64 (↑(aE v x k):Int))] [cells false 27 (ad p v (AV.mp 1)),AObj.map es] g)) (?_)⟩
   refine(av (aS _ _ rfl trivial rfl rfl rfl) (Af _))
def eE (s out:Nat)(l:Lit):Bool:=if l.neg then s.testBit l.atom.toNat else !out.testBit l.atom.toNat
theorem q7 (R:Res)(s out:Nat)(l:Lit)(h:0<=l.atom/\l.atom<24)(hs:s<2^24)(ho:out<2^24)(g:R.σ):Does Tryd.prog R 107 [ca l,.ref 0 0,.ref 1 0] [.cells false 1 (fun _=>.int .u64 s),.cells false 1 (fun _=>.int .u64 out)] g (.ret (.bool (eE s out l))) [.cells false 1 (fun _=>.int .u64 s),.cells false 1 (fun _=>.int .u64 out)] g:=by
 obtain⟨n,hn⟩:∃n:Nat,l.atom=n:=⟨l.atom.toNat,omg⟩
 obtain⟨at',ng⟩:=l
 simp only at hn h
 subst hn
 have hs':=bC hs
 have ho':=bC ho
 refine spW (nt:=25) (rs:=[.tmp 4]) (k0:=2) ?_
 refine vcR [] (lkL [(0,[1,2,3]),(1,[4])]) (lkL [(1,[(6,ROrc.pcall (AV.bool (Nat.testBit s n))),(16,ROrc.pcall (AV.bool (Nat.testBit out n)))])]) (fun Q=>(fun (u1:Bool)=>2<=2/\(ng=true->1<=1)/\(ng=true->1<=2)/\(ng=true->∀(hp:List AObj) (g:R.σ),true=true/\Does Tryd.prog R 71 [int u64 (↑s:Int),int i64 (↑n:Int)] hp g (ret (AV.bool (Nat.testBit s n))) hp g)/\((!u1)=true->2<=2)/\((!u1 && !ng)=true->1<=1)/\((!u1 && !ng)=true->1<=2)/\((!u1 && !ng)=true->∀(hp:List AObj) (g:R.σ),true=true/\Does Tryd.prog R 71 [int u64 (↑out:Int),int i64 (↑n:Int)] hp g (ret (AV.bool (Nat.testBit out n))) hp g)/\Q AEx.ret (St.mk [(4,AV.bool (bif u1 then true else bif !ng then !Nat.testBit out n else false))] [cells false 1 fun x=>int u64 (↑s:Int),cells false 1 fun x=>int u64 (↑out:Int),cells false 2 (nth [int i64 (↑n:Int),AV.bool ng])] g)) (bif ng then Nat.testBit s n else false)) ⟨omg,omg,omg,(fun hgd=>(fun _ _=>⟨rfl,(jI _ _ _ omg omg _ _)⟩)),omg,omg,omg,(fun hgd=>(fun _ _=>⟨rfl,(jI _ _ _ omg omg _ _)⟩)),?_⟩
 refine(av (bZ 2 _ _ rfl trivial omg trivial ⟨(fun j hj=>match j,hj with|0,_=>trivial ),(fun j hj=>match j,hj with|0,_=>trivial ),trivial⟩ krf rfl rfl) (Ag ?_))
 show(AV.bool (bif bif ng then Nat.testBit s n else false then true else bif !ng then !Nat.testBit out n else false))=_
 show AV.bool _=AV.bool _
 unfold eE
 cases ng <;> simp
def f6 (s o:Nat)(r:Rule):Nat:=if r.body.l.any (eE s o) then o else o|||2^r.head.toNat
def br (l:List Rule)(s o:Nat):Nat:=l.foldl (f6 s) o
def jL (l:List Rule)(s:Nat):Nat->Nat->Nat
 |0,o=>o
 |n+1,o=>if br l s o=o then o else jL l s n (br l s o)
def fol (l:List Rule)(s:Nat):Nat:=jL l s (2^24+1) 0
def aI (r:Rule):Prop:=lh r/\0<=r.head/\r.head<24
theorem wK {s o:Nat}{r:Rule}:o<=f6 s o r:=by
 unfold f6
 split
 ·exact Nat.le_refl _
 ·exact Nat.left_le_or
theorem wL {s o:Nat}{r:Rule}(h:r.head<24)(h0:0<=r.head)(ho:o<2^24):f6 s o r<2^24:=by
 unfold f6
 split
 ·exact ho
 ·exact Nat.or_lt_two_pow ho (Nat.pow_lt_pow_right dcd omg)
theorem q8 {l:List Rule}{s o i:Nat}(h:i<l.length):br (l.take (i+1)) s o=f6 s (br (l.take i) s o) (l.getD i default):=by
 unfold br
 rw[List.take_add_one,List.foldl_append,List.getElem?_eq_getElem h,List.getD_eq_getElem?_getD,List.getElem?_eq_getElem h]
 rfl
theorem q9 {l:List Rule}{s o:Nat}(h:∀r,r∈l->aI r)(ho:o<2^24):br l s o<2^24:=by
 unfold br
 induction l generalizing o with
 |nil=>exact ho
 |cons r l ih=>
  have hr:=h r (List.mem_cons_self ..)
  exact ih (fun q hq=>h q (List.mem_cons_of_mem _ hq)) (wL hr.2.2 hr.2.1 ho)
theorem wM (l:List Rule)(s o:Nat):o<=br l s o:=by
 unfold br
 induction l generalizing o with
 |nil=>exact Nat.le_refl _
 |cons r l ih=>exact Nat.le_trans wK (ih _)
theorem fF {l:List Rule}{i:Nat}(h:i<l.length):l.getD i default∈l:=by
 rw[List.getD_eq_getElem?_getD,List.getElem?_eq_getElem h,Option.getD_some]
 exact List.getElem_mem h
theorem dY (R:Res)(a:Int)(ha:0<=a/\a<25)(hp:List AObj)(g:R.σ):Does Tryd.prog R 79 [.int .i64 a] hp g (.ret (.int .u64 ((2^a.toNat:Nat):Int))) hp g:=by
 obtain⟨n,rfl⟩:∃n:Nat,a=n:=⟨a.toNat,omg⟩
 exact gF R n omg hp g
theorem lm (R:Res)(p:Prg)(s:Nat)(hp:List AObj)(hl:p.rules.l.length<1000000)(hr:∀r,r∈p.rules.l->aI r)(hs:s<2^24)(g:R.σ):Does Tryd.prog R 80 [au p,.int .u64 s] hp g (.ret (.int .u64 (fol p.rules.l s))) hp g:=by
 refine bN (fun R g=>?_) (by exact⟨⟨⟨trivial,trivial⟩,trivial⟩,trivial,trivial⟩) R hp g
 refine spW (nt:=34) (rs:=[.tmp 4]) (k0:=0) ?_
 refine vcR [] (lkL [(0,[2,3]),(1,[2,3,5]),(2,[2,3,5,6])]) (fun _=>[]) (fun (Q:AEx->St R.σ->Prop)=>WpC Tryd.prog R 34 0 80 [1,1,0,1,0] Q [Kont.blk 0,Kont.seq [1,1,1]] (St.mk [(2,ref 0 0),(3,ref 1 0),(5,ref 2 0),(6,int u64 1)] [cells false 2 (nth [int i64 p.atoms,ae p.rules]),cells false 1 fun (a:Nat)=>int u64 (↑s:Int),cells false 1 fun (a:Nat)=>int u64 0] g)) (?_)
 refine(bl krf (fun (x:Nat × Nat)=>⟨[(2,ref 0 0),(3,ref 1 0),(5,ref 2 0),(6,.int .u64 x.1)],[.cells false 2 (nth [.int .i64 p.atoms,ae p.rules]),.cells false 1 (fun _=>.int .u64 s),.cells false 1 (fun _=>.int .u64 x.2)],g⟩) (fun (x:Nat × Nat)=>(x.2<2^24/\x.1<2^24/\(x.2=x.1->fol p.rules.l s=x.2)/\(x.2≠x.1->∃f,2^24+1<=f+x.2/\jL p.rules.l s f x.2=fol p.rules.l s))) (fun (x:Nat × Nat)=>(if x.2=x.1 then 0 else 2^24+1-x.2)) (1,0) (toL (h1:=⟨Af _,Af _,Af _,(Ag krf),trivial⟩)) ?_ (fun x hi=>?_))
 ·refine⟨dcd,dcd,fun h=>absurd h dcd,fun _=>⟨2^24+1,Nat.le_refl _,rfl⟩⟩
 ·obtain⟨b,o⟩:=x
  obtain⟨h1,h2,h3,h4⟩:=hi
  simp only at h1 h2 h3 h4
  refine vcR [] (lkL [(3,[2,3,5,12]),(4,[2,3,5,6]),(5,[2,3,5,6,15,16,17])]) (fun _=>[]) (fun Q=>(fun (u1:List AObj)=>(fun (u2:Bool)=>1<=1/\(u2=true->1<=1/\2<=2/\WpC Tryd.prog R 34 0 80 [1,1,0,1,0,0,1,0,1,1,0] Q [Kont.blk 2,Kont.blk 1] (St.mk [(2,ref 0 0),(3,ref 1 0),(5,ref 2 0),(6,int u64 (↑o:Int)),(15,ae p.rules),(16,int i64 (↑(List.length p.rules.l):Int)),(17,int i64 0)] u1 g))/\(u2=false->Q (AEx.exit 0) (St.mk [(2,ref 0 0),(3,ref 1 0),(5,ref 2 0),(12,AV.bool u2)] u1 g))) ((↑o:Int) != (↑b:Int))) ([cells false 2 (nth [int i64 p.atoms,ae p.rules]),cells false 1 fun x=>int u64 (↑s:Int),cells false 1 fun x=>int u64 (↑o:Int)])) ⟨omg,fun c1=>have c1:¬(↑o:Int)=(↑b:Int):=(bne_iff_ne.mp c1);⟨omg,omg,?_⟩,fun c1=>have c1:(↑o:Int)=(↑b:Int):=(bne_eq_false_iff_eq.mp c1);?_⟩
  ·have hne:o≠b:=by omega
   refine(bl krf (fun (i:Nat)=>⟨[(2,ref 0 0),(3,ref 1 0),(5,ref 2 0),(6,int u64 (o:Int)),(15,ae p.rules),(16,int i64 (p.rules.l.length:Int)),(17,.int .i64 i)],[.cells false 2 (nth [.int .i64 p.atoms,ae p.rules]),.cells false 1 (fun _=>.int .u64 s),.cells false 1 (fun _=>.int .u64 (br (p.rules.l.take i) s o))],g⟩) (fun (i:Nat)=>(i<=p.rules.l.length)) (fun (i:Nat)=>(p.rules.l.length-i)) 0 (toL (h1:=⟨Af _,Af _,Af _,Af _,Af _,Af _,(Ag krf),trivial⟩)) ?_ (fun i hi=>?_))
   ·exact Nat.zero_le _
   ·rcases Nat.lt_or_ge i p.rules.l.length with hi'|hi'
    ·have hq:=hr _ (fF hi')
     have ht:br (p.rules.l.take i) s o<2^24:=q9 (fun q hq=>hr q (List.mem_of_mem_take hq)) h1
     have q1:=hq.1.1
     have q2:=hq.1.2
     have q3:=hq.2
     refine vcR [] (lkL [(6,[2,3,5,6,15,16,17,18]),(7,[2,3,5,6,8,15,16,17]),(8,[2,3,5,6,8,9,15,16,17]),(9,[2,3,5,6,8,15,16,17,26]),(10,[2,3,5,6,15,16,17]),(11,[2,3,5,6,15,16,17])]) (lkL [(7,[(3,ROrc.val (Orc.obj (nth [int i64 (List.getD p.rules.l i default).head,ap (List.getD p.rules.l i default).body])))]),(8,[(3,ROrc.kcall (AV.bool (List.any (List.getD p.rules.l i default).body.l (eE s (br (List.take i p.rules.l) s o)))))]),(10,[(3,ROrc.pcall (int u64 (↑(2^Int.toNat (List.getD p.rules.l i default).head):Int))),(5,ROrc.val (Orc.obj (nth [int u64 (IntKind.wrap u64 (↑(BitVec.toNat (BitVec.ofInt 64 (↑(br (List.take i p.rules.l) s o):Int)|||BitVec.ofInt 64 (↑(2^Int.toNat (List.getD p.rules.l i default).head):Int))):Int))])))])]) (fun Q=>(fun (u1:List AObj)=>(fun (u2:AV)=>(fun (u3:Rule)=>(fun (u4:Int)=>(fun (u5:Int)=>(fun (u6:Nat)=>(fun (u7:List (Nat × AV))=>(fun (u8:List AV)=>(fun (u9:Bool)=>(fun (u10:AObj)=>(decide (u5<u4)=true->(0<=u5/\u5<u4)/\2<=2/\2<=2/\(∀(c:Nat),c<2->nth u8 c=aj (nth [int i64 0,fz Fz.nil 0 0 fun x x_1=>any]) 0 2 (List.brecOn (motive:=fun (x:List AV)=>Nat->AV) u8 nth._f) c)/\2<=2/\(true=true/\Does Tryd.prog R 50 [ap u3.body,fn 107 0 (nth []) 2 (nth [ref 1 0,ref 2 0])] u1 g (ret (AV.bool u9)) u1 g)/\((!u9)=true->Flw Tryd.prog/\1<=1/\1<=2/\(∀(hp:List AObj) (g:R.σ),true=true/\Does Tryd.prog R 79 [int i64 u3.head] hp g (ret (int u64 (↑(2^Int.toNat u3.head):Int))) hp g)/\1<=1/\(∀(c:Nat),c<1->nth [u2] c=aj (fun (x:Nat)=>int u64 (↑u6:Int)) 0 1 (fun (x:Nat)=>u2) c)/\(-9223372036854775808<=u5+1/\u5+1<=9223372036854775807)/\Q AEx.normal (St.mk u7 [u10,cells false 1 fun x=>int u64 (↑s:Int),cells false 1 (nth [u2]),cells false 2 (nth u8)] g))/\((!u9)=false->(-9223372036854775808<=u5+1/\u5+1<=9223372036854775807)/\Q AEx.normal (St.mk u7 u1 g)))/\(decide (u5<u4)=false->Q (AEx.exit 2) (St.mk [(2,ref 0 0),(3,ref 1 0),(5,ref 2 0),(6,int u64 (↑o:Int)),(15,ae p.rules),(16,int i64 u4),(17,int i64 u5),(18,AV.bool (decide (u5<u4)))] [u10,cells false 1 fun x=>int u64 (↑s:Int),cells false 1 fun x=>int u64 (↑u6:Int)] g))) (cells false 2 (nth [int i64 p.atoms,ae p.rules]))) (List.any u3.body.l (eE s u6))) ([int i64 u3.head,ap u3.body])) ([(2,ref 0 0),(3,ref 1 0),(5,ref 2 0),(6,int u64 (↑o:Int)),(15,ae p.rules),(16,int i64 u4),(17,int i64 (u5+1))])) (br (List.take i p.rules.l) s o)) ((↑i:Int))) ((↑(List.length p.rules.l):Int))) (List.getD p.rules.l i default)) (int u64 (IntKind.wrap u64 (↑(BitVec.toNat (BitVec.ofInt 64 (↑(br (List.take i p.rules.l) s o):Int)|||BitVec.ofInt 64 (↑(2^Int.toNat (List.getD p.rules.l i default).head):Int))):Int)))) ([cells false 2 (nth [int i64 p.atoms,ae p.rules]),cells false 1 fun x=>int u64 (↑s:Int),cells false 1 fun x=>int u64 (↑(br (List.take i p.rules.l) s o):Int),cells false 2 (nth [int i64 (List.getD p.rules.l i default).head,ap (List.getD p.rules.l i default).body])])) ⟨fun c1=>have c1:(↑i:Int)<(↑(List.length p.rules.l):Int):=(of_decide_eq_true c1);⟨omg,omg,omg,(fun c hc=>match c,hc with|0,_=>krf|1,_=>krf ),omg,⟨rfl,(jH _ _ _ _ _ _ _ _ _ _ omg krf (fun r _=>(doS [1,2] 4 (fun R g=>q7 R (s) (br (List.take i p.rules.l) s o) (r) ?_ omg omg g))))⟩,fun c2=>have c2:List.any (List.getD p.rules.l i default).body.l (eE s (br (List.take i p.rules.l) s o))=false:=((Bool.not_eq_true' _).mp c2);⟨krf,omg,omg,(fun _ _=>⟨rfl,(dY _ _ omg _ _)⟩),omg,(fun c hc=>match c,hc with|0,_=>krf ),omg,?_⟩,fun c2=>have c2:List.any (List.getD p.rules.l i default).body.l (eE s (br (List.take i p.rules.l) s o))=true:=((Bool.not_eq_false' _).mp c2);⟨omg,?_⟩⟩,fun c1=>have c1:¬(↑i:Int)<(↑(List.length p.rules.l):Int):=(of_decide_eq_false c1);?_⟩
     ·exact q2 _ (by assumption)
     ·refine(aU (i+1) (toS [0,1,2] 4 (hob:=⟨⟨rfl,Nat.le_refl _,fun j hj=>match j,hj with|0,_=>(Af _)|1,_=>(Af _) ⟩,⟨rfl,Nat.le_refl _,fun j hj=>match j,hj with|0,_=>(Af _) ⟩,⟨rfl,Nat.le_refl _,fun j hj=>match j,hj with|0,_=>(Ag ?_) ⟩,trivial⟩)) ?_ ?_)
      ·show AV.int .u64 _=AV.int .u64 _
       congr 1
       rw[q8 hi']
       unfold f6
       rw[if_neg (by rw[c2];decide)]
       exact Tb.u64_or (bC ht) (bC (Nat.pow_lt_pow_right dcd omg))
      ·omega
      ·omega
     ·refine(aU (i+1) (toS [0,1,2] 4 (hob:=⟨⟨rfl,Nat.le_refl _,fun j hj=>match j,hj with|0,_=>(Af _)|1,_=>(Af _) ⟩,⟨rfl,Nat.le_refl _,fun j hj=>match j,hj with|0,_=>(Af _) ⟩,⟨rfl,Nat.le_refl _,fun j hj=>match j,hj with|0,_=>(Ag ?_) ⟩,trivial⟩)) ?_ ?_)
      ·show AV.int .u64 _=AV.int .u64 _
       rw[q8 hi']
       unfold f6
       rw[if_pos c2]
      ·omega
      ·omega
     ·exact absurd hi' omg
    ·have hk:i=p.rules.l.length:=by omega
     subst hk
     rw[List.take_length]
     obtain⟨f,e1,e2⟩:=h4 hne
     have hle:=wM p.rules.l s o
     have hlt:=q9 (s:=s) hr h1
     obtain⟨f,rfl⟩:∃k,f=k+1:=⟨f-1,omg⟩
     have e3:jL p.rules.l s (f+1) o=if br p.rules.l s o=o then o else jL p.rules.l s f (br p.rules.l s o):=rfl
     rw[e3] at e2
     refine vcR [] (lkL [(6,[2,3,5,6,15,16,17,18]),(7,[2,3,5,6,8,15,16,17]),(8,[2,3,5,6,8,9,15,16,17]),(9,[2,3,5,6,8,15,16,17,26]),(10,[2,3,5,6,15,16,17]),(11,[2,3,5,6,15,16,17])]) (lkL [(7,[(3,ROrc.val (Orc.obj (nth [int i64 (List.getD p.rules.l (List.length p.rules.l) default).head,ap (List.getD p.rules.l (List.length p.rules.l) default).body])))]),(8,[(3,ROrc.kcall (AV.bool (List.any (List.getD p.rules.l (List.length p.rules.l) default).body.l (eE s (br p.rules.l s o)))))]),(10,[(3,ROrc.pcall (int u64 (↑(2^Int.toNat (List.getD p.rules.l (List.length p.rules.l) default).head):Int))),(5,ROrc.val (Orc.obj (nth [int u64 (IntKind.wrap u64 (↑(BitVec.toNat (BitVec.ofInt 64 (↑(br p.rules.l s o):Int)|||BitVec.ofInt 64 (↑(2^Int.toNat (List.getD p.rules.l (List.length p.rules.l) default).head):Int))):Int))])))])]) (fun Q=>(fun (u1:Rule)=>(fun (u2:Int)=>(fun (u3:List AObj)=>(fun (u4:AV)=>(fun (u5:List (Nat × AV))=>(fun (u6:Bool)=>(fun (u7:List AV)=>(fun (u8:AObj)=>(decide (u2<u2)=true->(0<=u2/\u2<u2)/\2<=2/\2<=2/\(∀(c:Nat),c<2->nth u7 c=aj (nth [int i64 0,fz Fz.nil 0 0 fun x x_1=>any]) 0 2 (List.brecOn (motive:=fun (x:List AV)=>Nat->AV) u7 nth._f) c)/\2<=2/\(true=true/\Does Tryd.prog R 50 [ap u1.body,fn 107 0 (nth []) 2 (nth [ref 1 0,ref 2 0])] u3 g (ret (AV.bool u6)) u3 g)/\((!u6)=true->Flw Tryd.prog/\1<=1/\1<=2/\(∀(hp:List AObj) (g:R.σ),true=true/\Does Tryd.prog R 79 [int i64 u1.head] hp g (ret (int u64 (↑(2^Int.toNat u1.head):Int))) hp g)/\1<=1/\(∀(c:Nat),c<1->nth [u4] c=aj (fun (x:Nat)=>int u64 (↑(br p.rules.l s o):Int)) 0 1 (fun (x:Nat)=>u4) c)/\(-9223372036854775808<=u2+1/\u2+1<=9223372036854775807)/\Q AEx.normal (St.mk u5 [u8,cells false 1 fun x=>int u64 (↑s:Int),cells false 1 (nth [u4]),cells false 2 (nth u7)] g))/\((!u6)=false->(-9223372036854775808<=u2+1/\u2+1<=9223372036854775807)/\Q AEx.normal (St.mk u5 u3 g)))/\(decide (u2<u2)=false->Q (AEx.exit 2) (St.mk [(2,ref 0 0),(3,ref 1 0),(5,ref 2 0),(6,int u64 (↑o:Int)),(15,ae p.rules),(16,int i64 u2),(17,int i64 u2),(18,AV.bool (decide (u2<u2)))] [u8,cells false 1 fun x=>int u64 (↑s:Int),cells false 1 fun x=>int u64 (↑(br p.rules.l s o):Int)] g))) (cells false 2 (nth [int i64 p.atoms,ae p.rules]))) ([int i64 u1.head,ap u1.body])) (List.any u1.body.l (eE s (br p.rules.l s o)))) ([(2,ref 0 0),(3,ref 1 0),(5,ref 2 0),(6,int u64 (↑o:Int)),(15,ae p.rules),(16,int i64 u2),(17,int i64 (u2+1))])) (int u64 (IntKind.wrap u64 (↑(BitVec.toNat (BitVec.ofInt 64 (↑(br p.rules.l s o):Int)|||BitVec.ofInt 64 (↑(2^Int.toNat u1.head):Int))):Int)))) ([cells false 2 (nth [int i64 p.atoms,ae p.rules]),cells false 1 fun x=>int u64 (↑s:Int),cells false 1 fun x=>int u64 (↑(br p.rules.l s o):Int),cells false 2 (nth [int i64 u1.head,ap u1.body])])) ((↑(List.length p.rules.l):Int))) (List.getD p.rules.l (List.length p.rules.l) default)) ⟨fun c1=>have c1:(↑(List.length p.rules.l):Int)<(↑(List.length p.rules.l):Int):=(of_decide_eq_true c1);⟨omg,omg,omg,(fun c hc=>match c,hc with|0,_=>krf|1,_=>krf ),omg,⟨rfl,(jH _ _ _ _ _ _ _ _ _ _ (by simp at * <;> omega) krf (fun r _=>(doS [1,2] 4 (fun R g=>q7 R (s) (br p.rules.l s o) (r) (by simp at * <;> omega) omg omg g))))⟩,fun c2=>have c2:List.any (List.getD p.rules.l (List.length p.rules.l) default).body.l (eE s (br p.rules.l s o))=false:=((Bool.not_eq_true' _).mp c2);⟨krf,omg,omg,(fun _ _=>⟨rfl,(dY _ _ (by simp at * <;> omega) _ _)⟩),omg,(fun c hc=>match c,hc with|0,_=>krf ),omg,?_⟩,fun c2=>have c2:List.any (List.getD p.rules.l (List.length p.rules.l) default).body.l (eE s (br p.rules.l s o))=true:=((Bool.not_eq_false' _).mp c2);⟨omg,?_⟩⟩,fun c1=>have c1:¬(↑(List.length p.rules.l):Int)<(↑(List.length p.rules.l):Int):=(of_decide_eq_false c1);?_⟩
     any_goals (exfalso;omega)
     refine⟨_,Ar _,(aU (o,br p.rules.l s o) (a8 ⟨Af _,Af _,Af _,Af _,trivial⟩ rfl rfl) ?_ ?_)⟩
     ·refine⟨hlt,h1,fun h=>?_,fun h=>⟨f,?_,?_⟩⟩
      ·simp only at h ⊢
       rw[if_pos h] at e2
       rw[h];exact e2.symm
      ·simp only at h ⊢
       omega
      ·simp only at h ⊢
       rw[if_neg h] at e2
       exact e2
     ·simp only
      rw[if_neg hne]
      split <;> omega
  ·have hb:o=b:=by omega
   refine⟨_,Ar _,vcR [] (lkL [(12,[4])]) (fun _=>[]) (fun Q=>1<=1/\Q AEx.ret (St.mk [(4,int u64 (↑o:Int))] [cells false 2 (nth [int i64 p.atoms,ae p.rules]),cells false 1 fun x=>int u64 (↑s:Int),cells false 1 fun x=>int u64 (↑o:Int)] g)) ⟨omg,?_⟩⟩
   refine(av (bG _ _ rfl trivial trivial rfl) (Ag ?_))
   show(int u64 (↑o:Int))=_
   show AV.int .u64 _=AV.int .u64 _
   rw[h3 hb]
def fG (v:Nat->Int)(s:Nat)(l:Lit):Bool:=bj v l==1||(!l.neg&&s.testBit l.atom.toNat)
theorem nz (R:Res)(s:Nat)(a:Int)(hs:s<2^24)(ha:0<=a/\a<24)(hp:List AObj)(g:R.σ):Does Tryd.prog R 71 [.int .u64 s,.int .i64 a] hp g (.ret (.bool (s.testBit a.toNat))) hp g:=by
 obtain⟨n,rfl⟩:∃n:Nat,a=n:=⟨a.toNat,omg⟩
 exact jI R s n hs omg hp g
theorem wN (R:Res)(p:Prg)(v:Nat->Int)(es:List (Value × AV))(s:Nat)(l:Lit)(h:0<=l.atom/\l.atom<24)(hs:s<2^24)(g:R.σ):Does Tryd.prog R 122 [ca l,.ref 2 0,.ref 3 0] [.cells false 27 (ad p v (.mp 1)),.map es,.cells false 1 (fun _=>.ref 0 0),.cells false 1 (fun _=>.int .u64 s)] g (.ret (.bool (fG v s l))) [.cells false 27 (ad p v (.mp 1)),.map es,.cells false 1 (fun _=>.ref 0 0),.cells false 1 (fun _=>.int .u64 s)] g:=by
 refine spW (nt:=22) (rs:=[.tmp 4]) (k0:=4) ?_
 refine vcR [] (lkL [(0,[1,2,3]),(1,[4])]) (lkL [(1,[(4,ROrc.kcall (int i64 (bj v l))),(14,ROrc.pcall (AV.bool (Nat.testBit s (Int.toNat l.atom))))])]) (fun Q=>(fun (u1:List AObj)=>Flw Tryd.prog/\1<=1/\2<=2/\(true=true/\Does Tryd.prog R 119 [ref 0 2,ca l] u1 g (ret (int i64 (bj v l))) u1 g)/\((!bj v l==1)=true->2<=2)/\((!bj v l==1 && !l.neg)=true->1<=1)/\((!bj v l==1 && !l.neg)=true->1<=2)/\((!bj v l==1 && !l.neg)=true->∀(hp:List AObj) (g:R.σ),true=true/\Does Tryd.prog R 71 [int u64 (↑s:Int),int i64 l.atom] hp g (ret (AV.bool (Nat.testBit s (Int.toNat l.atom)))) hp g)/\Q AEx.ret (St.mk [(4,AV.bool (bif bj v l==1 then true else bif !l.neg then Nat.testBit s (Int.toNat l.atom) else false))] u1 g)) ([cells false 27 (ad p v (AV.mp 1)),AObj.map es,cells false 1 fun x=>ref 0 0,cells false 1 fun x=>int u64 (↑s:Int),cells false 2 (nth [int i64 l.atom,AV.bool l.neg])])) ⟨krf,omg,omg,⟨rfl,(doS [0,1] 5 (fun R g=>q6 R (p) (v) (es) (l) omg g))⟩,omg,omg,omg,(fun hgd=>(fun _ _=>⟨rfl,(nz _ _ _ omg omg _ _)⟩)),?_⟩
 refine(av (bZ 4 _ _ rfl trivial omg trivial ⟨(fun _ _=>(by first|exact trivial|apply aV)),(fun j hj=>match j,hj with|0,_=>(show 1<=4 by omega) ),(fun j hj=>match j,hj with|0,_=>trivial ),trivial⟩ krf rfl rfl) (Ag krf))
def aZ (v:Nat->Int)(s:Nat)(r:Rule):Bool:= !r.body.l.any (fG v s)
theorem wO (R:Res)(p:Prg)(v:Nat->Int)(es:List (Value × AV))(s:Nat)(r:Rule)(h:lh r)(hs:s<2^24)(g:R.σ):Does Tryd.prog R 121 [bQ r,.ref 2 0,.ref 3 0] [.cells false 27 (ad p v (.mp 1)),.map es,.cells false 1 (fun _=>.ref 0 0),.cells false 1 (fun _=>.int .u64 s)] g (.ret (.bool (aZ v s r))) [.cells false 27 (ad p v (.mp 1)),.map es,.cells false 1 (fun _=>.ref 0 0),.cells false 1 (fun _=>.int .u64 s)] g:=by
 have h1:=h.1
 have hb:=h.2
 refine spW (nt:=10) (rs:=[.tmp 4]) (k0:=4) ?_
 refine vcR [] (lkL [(0,[1,2,3]),(1,[4])]) (lkL [(1,[(3,ROrc.kcall (AV.bool (List.any r.body.l (fG v s))))])]) (fun Q=>(fun (u1:List AObj)=>2<=2/\(true=true/\Does Tryd.prog R 50 [ap r.body,fn 122 0 (nth []) 2 (nth [ref 2 0,ref 3 0])] u1 g (ret (AV.bool (List.any r.body.l (fG v s)))) u1 g)/\Q AEx.ret (St.mk [(4,AV.bool !List.any r.body.l (fG v s))] u1 g)) ([cells false 27 (ad p v (AV.mp 1)),AObj.map es,cells false 1 fun x=>ref 0 0,cells false 1 fun x=>int u64 (↑s:Int),cells false 2 (nth [int i64 r.head,ap r.body])])) ⟨omg,⟨rfl,(jH _ _ _ _ _ _ _ _ _ _ omg krf (fun r _=>(doS [0,1,2,3] 5 (fun R g=>wN R (p) (v) (es) (s) (r) ?_ omg g))))⟩,?_⟩
 ·exact hb _ (by assumption)
 ·refine(av (bZ 4 _ _ rfl trivial omg trivial ⟨(fun _ _=>(by first|exact trivial|apply aV)),(fun j hj=>match j,hj with|0,_=>(show 1<=4 by omega) ),(fun j hj=>match j,hj with|0,_=>trivial ),trivial⟩ krf rfl rfl) (Ag krf))
def ofH (l:List Rule)(a:Int):List Rule:=l.filter (fun r=>r.head==a)
structure HeadsOk (es:List (Value × AV))(l:List Rule):Prop where
 key:∀e,e∈es->∃a:Nat,e.1=.int .i64 a/\a<24
 hit:∀a,ofH l a≠[]->(∃e,e∈es/\e.1=.int .i64 a)/\∀e,e∈es->e.1=.int .i64 a->e.2=ae ⟨ofH l a,.opn⟩
 miss:∀a,ofH l a=[]->∀e,e∈es->e.1≠.int .i64 a
theorem gG {a:Nat}(h:a<24):∃l,Go.keyOf Tryd.prog 3 (.int .i64 a)=some l:=by
 have w:(List.range 24).all (fun n=>(Lit.int .i64 (n:Int)).wf)=true:=by decide
 exact⟨_,Go.Maps.keyOf_int_mk (q:=.i64) krf ((List.all_eq_true.1 w) a (List.mem_range.2 h))⟩
theorem wP (R:Res)(p:Prg)(v:Nat->Int)(es:List (Value × AV))(s:Nat)(a:Nat)(k:Fz)(hk:(ofH p.rules.l a=[]->k=.nil)/\(ofH p.rules.l a≠[]->k=.opn))(ha:a<24)(hes:HeadsOk es p.rules.l)(hl:p.rules.l.length<1000000)(hr:∀r,r∈p.rules.l->aI r)(hs:s<2^24)(g:R.σ):Does Tryd.prog R 115 [.ref 0 0,.int .i64 a,.int .u64 s] [.cells false 27 (ad p v (.mp 1)),.map es] g (.ret (.bool ((ofH p.rules.l a).any (aZ v s)))) [.cells false 27 (ad p v (.mp 1)),.map es] g:=by
 refine spW (nt:=15) (rs:=[.tmp 6]) (k0:=2) ?_
 have hlf:(ofH p.rules.l a).length<1000000:=Nat.lt_of_le_of_lt (List.length_filter_le _ _) hl
 have hrf:∀r,r∈ofH p.rules.l a->lh r:=fun r h=>(hr r (List.mem_filter.1 h |>.1)).1
 refine vcR [] (lkL [(0,[1,3,5]),(1,[6])]) (lkL [(1,[(5,ROrc.kop (ae (KL.mk (ofH p.rules.l (↑a:Int)) k))),(7,ROrc.kcall (AV.bool (List.any (KL.mk (List.filter (fun (r:Rule)=>r.head==(↑a:Int)) p.rules.l) k).l (aZ v s))))])]) (fun Q=>(fun (u1:List AObj)=>(fun (u2:AV)=>(fun (u3:AV)=>1<=1/\27<=27/\OpOk Tryd.prog R (Oper.mk (some 12) (Op.lookup 96 (Operand.tmp 10) (Operand.tmp 11) false) 22 "table.go:109" #[Edge.mk 3 Ground.data,Edge.mk 4 Ground.data] none) (evO [Row.mk (some 11) none (int i64 (↑a:Int)) false (some []) [],Row.mk (some 10) none (AV.mp 1) false (some []) [0],Row.mk (some 9) none (ref 0 26) false (some []) [],Row.mk (some 8) none (ref 0 0) false (some []) [],Row.mk (some 7) none (ref 0 0) false (some []) [2]] [(1,int i64 (↑a:Int)),(3,ref 2 0),(5,ref 3 0)] []) u1 g u2 u1 g/\(true=true/\Does Tryd.prog R 120 [u2,fn 121 0 (nth []) 2 (nth [ref 2 0,ref 3 0])] u1 g (ret u3) u1 g)/\Q AEx.ret (St.mk [(6,u3)] u1 g)) (AV.bool (List.any (List.filter (fun (r:Rule)=>r.head==(↑a:Int)) p.rules.l) (aZ v s)))) (fz k 2 (List.length (ofH p.rules.l (↑a:Int))) fun i=>bB (List.getD (ofH p.rules.l (↑a:Int)) i default))) ([cells false 27 (ad p v (AV.mp 1)),AObj.map es,cells false 1 fun a=>ref 0 0,cells false 1 fun a=>int u64 (↑s:Int)])) ⟨omg,omg,?_,⟨rfl,(wu _ (KL.mk (List.filter (fun (r:Rule)=>r.head==(↑a:Int)) p.rules.l) k) _ _ _ _ _ _ _ _ (by assumption) krf (fun r _=>(wO _ _ _ _ _ _ ?_ omg _)))⟩,?_⟩
 ·have hks:∀e∈es,∃l,Go.keyOf Tryd.prog 3 e.1=some l:=fun e he=>by
   obtain⟨b,e1,e2⟩:=hes.key e he
   rw[e1]
   exact gG e2
  by_cases h0:ofH p.rules.l a=[]
  ·rw[hk.1 h0,h0]
   refine qs (t:=96) (kt:=3) (vt:=22) (m:=.tmp 10) (x:=.tmp 11) (ob:=1) (es:=es) (kv:=.int .i64 a) rfl krf (Go.Maps.int_keyed (q:=.i64) krf) rfl (by exact Le.nil) rfl rfl (fun FM Z v h=>h) (gG ha) hks (hes.miss a h0)
  ·rw[hk.2 h0]
   exact qr (t:=96) (kt:=3) (vt:=22) (m:=.tmp 10) (x:=.tmp 11) (ob:=1) (es:=es) (kv:=.int .i64 a) (d:=ae ⟨ofH p.rules.l a,.opn⟩) rfl krf (Go.Maps.int_keyed (q:=.i64) krf) rfl rfl (fun FM Z v h=>h) (gG ha) hks (hes.hit a h0).1 (hes.hit a h0).2
 ·exact hrf _ (by assumption)
 ·refine(av (bZ 2 _ _ rfl trivial omg trivial ⟨(fun _ _=>(by first|exact trivial|apply aV)),trivial⟩ krf rfl rfl) (Ag krf))
theorem jM (R:Res)(p:Prg)(v:Nat->Int)(es:List (Value × AV))(s:Nat)(a:Nat)(ha:a<24)(hes:HeadsOk es p.rules.l)(hl:p.rules.l.length<1000000)(hr:∀r,r∈p.rules.l->aI r)(hs:s<2^24)(g:R.σ):Does Tryd.prog R 115 [.ref 0 0,.int .i64 a,.int .u64 s] [.cells false 27 (ad p v (.mp 1)),.map es] g (.ret (.bool ((ofH p.rules.l a).any (aZ v s)))) [.cells false 27 (ad p v (.mp 1)),.map es] g:=
 wP R p v es s a (if ofH p.rules.l a=[] then .nil else .opn) ⟨fun h=>if_pos h,fun h=>if_neg h⟩ ha hes hl hr hs g
theorem dQ (R:Res)(is:Bool)(h:is=true)(hp:List AObj)(g:R.σ):Does Tryd.prog R 140 [.bool is] hp g (.ret (.tup 0 (nth []))) hp g:=by
 subst h
 refine bN (fun R g=>?_) (by exact⟨trivial,trivial⟩) R hp g
 refine spW (nt:=6) (rs:=[]) (k0:=0) ?_
 refine vcR [[1,0]] (lkL [(0,[3])]) (fun _=>[]) (fun Q=>(false=true->WpC Tryd.prog R 6 0 140 [1,0] Q [] (St.mk [(3,AV.bool false)] [] g))/\(false=false->Q AEx.normal (St.mk [(3,AV.bool false)] [] g))) ⟨fun h=>(nomatch h),fun _=>?_⟩
 refine(av (aS _ _ rfl trivial rfl rfl rfl) (Af _))
theorem iC (R:Res)(is:Bool)(h:is=false)(hp:List AObj)(g:R.σ):Does Tryd.prog R 140 [.bool is] hp g (.pan (.ifc 145 (.agg 0 (nth [])))) hp g:=by
 subst h
 refine bN (fun R g=>?_) (by exact⟨trivial,trivial⟩) R hp g
 refine spW (nt:=6) (rs:=[]) (k0:=0) ?_
 refine vcR [[1,1]] (lkL [(0,[3])]) (fun _=>[]) (fun Q=>(true=true->Q (AEx.pan (ifc 145 (agg 0 (nth [])))) (St.mk [] [] g))/\(true=false->WpC Tryd.prog R 6 0 140 [1,1] Q [] (St.mk [(3,AV.bool true)] [] g))) ⟨fun _=>?_,fun h=>(nomatch h)⟩
 refine(uQ (P:=Tryd.prog) (rs:=[]) rfl rfl (Af _))
def cZ (s:Step):AV:=if s.rule = -1 then .ifc 148 (a9 s) else .ifc 149 (a9 s)
theorem ln (R:Res)(s:Step)(hp:List AObj)(g:R.σ):Does Tryd.prog R 68 [a9 s] hp g (.ret (cZ s)) hp g:=by
 refine bN (fun R g=>?_) (by exact⟨⟨⟨trivial,trivial⟩,trivial⟩,trivial⟩) R hp g
 refine spW (nt:=12) (rs:=[.tmp 2]) (k0:=0) ?_
 refine vcR [] (lkL [(0,[1]),(1,[1,5]),(2,[2]),(3,[2])]) (fun _=>[]) (fun Q=>1<=2/\((s.rule == -1)=true->2<=2/\Q AEx.ret (St.mk [(2,ifc 148 (a9 s))] [cells false 2 (nth [int i64 s.rule,ah s.atoms])] g))/\((s.rule == -1)=false->2<=2/\Q AEx.ret (St.mk [(2,ifc 149 (a9 s))] [cells false 2 (nth [int i64 s.rule,ah s.atoms])] g))) ⟨omg,fun c1=>have c1:s.rule = -1:=(beq_iff_eq.mp c1);⟨omg,?_⟩,fun c1=>have c1:¬s.rule = -1:=(beq_eq_false_iff_ne.mp c1);⟨omg,?_⟩⟩
 ·refine(av (bG _ _ rfl trivial ⟨⟨trivial,trivial⟩,trivial⟩ rfl) (Ag ?_))
  show(ifc 148 (a9 s))=_
  ·unfold cZ
   rw[if_pos c1]
 ·refine(av (bG _ _ rfl trivial ⟨⟨trivial,trivial⟩,trivial⟩ rfl) (Ag ?_))
  show(ifc 149 (a9 s))=_
  ·unfold cZ
   rw[if_neg c1]
def cR (p:Prg)(v:Nat->Int)(s:Step):Bool:=decide (0<=s.rule/\s.rule<=(p.rules.l.length:Int)-1)&&(s.atoms.l.length==1&&(s.atoms.l.getD 0 0==(p.rules.l.getD s.rule.toNat default).head&&(v (p.rules.l.getD s.rule.toNat default).head.toNat==3&&cx v (p.rules.l.getD s.rule.toNat default))))
def cy (v:Nat->Int)(a:Nat)(x:Int):Nat->Int:=fun b=>if b=a then x else v b
def eF (p:Prg)(v:Nat->Int)(s:Step):Nat->Int:=cy v (p.rules.l.getD s.rule.toNat default).head.toNat 2
def ra (b:Bool):Oc:=match b with
 |true=>.ret (.tup 0 (nth []))
 |false=>.pan (.ifc 145 (.agg 0 (nth [])))
theorem lp {p:Prg}{v:Nat->Int}{m:AV}{k a:Nat}{x:Int}(e:k=a+2)(ha:a<24){j:Nat}(f:Nat->AV)(hf:f 0=.int .i64 x):aj (ad p v m) k 1 f j=ad p (cy v a x) m j:=by
 subst e
 rw[cY]
 unfold ad cy
 by_cases h:j=a+2
 ·subst h
  rw[if_pos omg,if_neg omg,if_neg omg,if_pos omg,show a+2-(a+2)=0 by omega,hf,if_pos omg]
 ·rw[if_neg omg]
  split
  ·rfl
  ·split
   ·rfl
   ·split
    ·rw[if_neg omg]
    ·rfl
theorem wQ (R:Res)(p:Prg)(v:Nat->Int)(es:List (Value × AV))(s:Step)(hl:p.rules.l.length<1000000)(hr:∀r,r∈p.rules.l->aI r)(h:cR p v s=true)(g:R.σ):Does Tryd.prog R 141 [a9 s,.ref 0 0] [.cells false 27 (ad p v (.mp 1)),.map es] g (.ret (.tup 0 (nth []))) [.cells false 27 (ad p (eF p v s) (.mp 1)),.map es] g:=by
 unfold cR at h
 simp only[Bool.and_eq_true,beq_iff_eq,decide_eq_true_eq] at h
 obtain⟨hA,hB,hC,hD,hE⟩:=h
 have hq:=hr _ (fF (show s.rule.toNat<p.rules.l.length by omega))
 have q1:=hq.1
 have q2:=hq.2
 have ho:∀j,aj (ad p v (.mp 1)) ((p.rules.l.getD s.rule.toNat default).head.toNat+2) 1 (fun _=>.int .i64 2) j=ad p (cy v (p.rules.l.getD s.rule.toNat default).head.toNat 2) (.mp 1) j:=fun j=>lp rfl omg (fun _=>.int .i64 2) rfl
 refine spW (nt:=66) (rs:=[]) (k0:=2) ?_
 refine vcR [] (lkL [(0,[1,2]),(1,[1,2]),(2,[1,2,4]),(3,[1,4])]) (lkL [(1,[(10,ROrc.pcall (AV.bool (decide (0<=s.rule/\s.rule<=(p.rules.l.length:Int)-1)))),(18,ROrc.pcall (tup 0 (nth [])))]),(2,[(11,ROrc.val (Orc.obj (nth [int i64 (p.rules.l.getD (s.rule.toNat) default).head,ap (p.rules.l.getD (s.rule.toNat) default).body])))]),(3,[(15,ROrc.kop (int i64 (v ((p.rules.l.getD (s.rule.toNat) default).head.toNat)))),(23,ROrc.kcall (AV.bool true)),(25,ROrc.pcall (tup 0 (nth [])))])]) (fun Q=>(fun (u1:Rule)=>(fun (u2:List AObj)=>(fun (u3:Int)=>(fun (u4:Bool)=>(fun (u5:Bool)=>(fun (u6:List AObj)=>(fun (u7:Bool)=>(fun (u8:Bool)=>(fun (u9:Option (List Nat))=>(fun (u10:Option (Nat × Bool))=>u5=true/\1<=2/\2<=27/\(-9223372036854775808<=u3/\u3<=9223372036854775807)/\(∀(hp:List AObj) (g:R.σ),true=true/\Does Tryd.prog R 58 [int i64 s.rule,int i64 0,int i64 u3] hp g (ret (AV.bool u8)) hp g)/\(u8=true->2<=2)/\(∀(hp:List AObj) (g:R.σ),true=true/\Does Tryd.prog R 140 [AV.bool (bif u8 then(s.atoms.l.length:Int)==1 else false)] hp g (ret (tup 0 (nth []))) hp g)/\u5=true/\2<=27/\1<=2/\(0<=s.rule/\s.rule<(p.rules.l.length:Int))/\2<=2/\2<=2/\(∀(c:Nat),c<2->nth [int i64 u1.head,ap u1.body] c=aj (nth [int i64 0,fz Fz.nil 0 0 fun x x_1=>any]) 0 2 (List.brecOn (motive:=fun (x:List AV)=>Nat->AV) [int i64 u1.head,ap u1.body] nth._f) c)/\u5=true/\2<=2/\((↑0:Int)<=0/\0<(s.atoms.l.length:Int))/\1<=1/\1<=2/\(u4=true->1<=2)/\(u4=true->0<=u1.head/\u1.head<(↑24:Int))/\(u4=true->OpOk Tryd.prog R (Oper.mk (some 49) (Op.load 43 (Operand.tmp 48)) 43 "table.go:147" #[Edge.mk 14 Ground.data,Edge.mk 8 Ground.guard] u10) (evO [Row.mk (some 48) u10 (ref 0 (u1.head.toNat+2)) false u9 [],Row.mk (some 47) u10 (ref 0 2) false u9 [],Row.mk (some 46) u10 (ref 0 0) false u9 [],Row.mk (some 45) u10 (int i64 u1.head) false u9 [3],Row.mk (some 44) u10 (ref 3 0) false u9 [],Row.mk (some 43) u10 (ref 0 0) false u9 [],Row.mk (some 42) none (AV.bool u4) false u9 [],Row.mk (some 41) none (AV.bool u4) false u9 [],Row.mk (some 40) none (int i64 u1.head) false u9 [3],Row.mk (some 39) none (ref 3 0) false u9 [],Row.mk (some 38) none (int i64 (s.atoms.l.getD 0 0)) false u9 [],Row.mk (some 37) none (fp 1 fun x=>int i64 (s.atoms.l.getD 0 0)) false u9 [],Row.mk (some 36) none (ah s.atoms) false u9 [2],Row.mk (some 35) none (ref 2 1) false u9 [],Row.mk (some 34) none (ref 2 0) false u9 []] [(1,ref 0 0),(2,ref 2 0),(4,ref 3 0)] [(8,true)]) u6 g (int i64 (v (u1.head.toNat))) u6 g)/\(u7=true->2<=2)/\(u7=true->true=true/\Does Tryd.prog R 114 [ref 0 2,bQ u1] u6 g (ret (AV.bool true)) u6 g)/\(∀(hp:List AObj) (g:R.σ),true=true/\Does Tryd.prog R 140 [AV.bool (bif u7 then true else false)] hp g (ret (tup 0 (nth []))) hp g)/\u5=true/\1<=2/\(0<=u1.head/\u1.head<(↑24:Int))/\u1.head.toNat+2+1<=27/\Q AEx.normal (St.mk [] (cells false 27 (aj (ad p v (AV.mp 1)) (u1.head.toNat+2) 1 fun x=>int i64 2)::u2) g)) (some (8,true))) (some [])) (decide (0<=s.rule/\s.rule<=u3))) (bif u4 then v (u1.head.toNat)==3 else false)) (cells false 27 (ad p v (AV.mp 1))::u2)) (Tables.follows Tryd.prog.toTables Departure.mixedOrders)) (s.atoms.l.getD 0 0==u1.head)) ((p.rules.l.length:Int)-1)) ([AObj.map es,cells false 2 (nth [int i64 s.rule,ah s.atoms]),cells false 2 (nth [int i64 u1.head,ap u1.body])])) (p.rules.l.getD (s.rule.toNat) default)) ⟨krf,omg,omg,omg,(fun _ _=>⟨rfl,(dD _ _ _ _ _ _)⟩),omg,(fun _ _=>⟨rfl,(dQ _ _ (by simp at * <;> omega) _ _)⟩),krf,omg,omg,omg,omg,omg,(fun c hc=>match c,hc with|0,_=>krf|1,_=>krf ),krf,omg,omg,omg,omg,omg,omg,?_,omg,(fun hgd=>⟨rfl,(jz hE (doS [0,1] 4 (fun R g=>lj R (p) (v) (es) (p.rules.l.getD (s.rule.toNat) default) omg g)))⟩),(fun _ _=>⟨rfl,(dQ _ _ (by simp at * <;> omega) _ _)⟩),krf,omg,omg,omg,?_⟩
 ·intro _
  exact dC rfl rfl krf rfl (by show _+1<=27;omega) (dX omg omg)
 ·refine(av (bZ 2 _ _ rfl trivial omg trivial ⟨(fun _ _=>?_),trivial⟩ ?_ rfl rfl) (Af _))
  ·rw[ho];exact aV _ _ 0 _
  ·show [AObj.cells false 27 (aj (ad p v (.mp 1)) ((p.rules.l.getD s.rule.toNat default).head.toNat+2) 1 (fun _=>.int .i64 2)),AObj.map es]=_
   rw[show aj (ad p v (.mp 1)) ((p.rules.l.getD s.rule.toNat default).head.toNat+2) 1 (fun _=>.int .i64 2)=ad p (cy v (p.rules.l.getD s.rule.toNat default).head.toNat 2) (.mp 1) from funext ho]
   rfl
theorem rb (R:Res)(p:Prg)(v:Nat->Int)(es:List (Value × AV))(s:Step)(hl:p.rules.l.length<1000000)(hr:∀r,r∈p.rules.l->aI r)(h:cR p v s=false)(g:R.σ):Does Tryd.prog R 141 [a9 s,.ref 0 0] [.cells false 27 (ad p v (.mp 1)),.map es] g (.pan (.ifc 145 (.agg 0 (nth [])))) [.cells false 27 (ad p v (.mp 1)),.map es] g:=by
 by_cases hA:0<=s.rule/\s.rule<=(p.rules.l.length:Int)-1
 ·have hq:=hr _ (fF (show s.rule.toNat<p.rules.l.length by omega))
  have q1:=hq.1
  have q2:=hq.2
  by_cases hB:(s.atoms.l.length:Int)=1
  ·have hm:(bif (bif (s.atoms.l.getD 0 0==(p.rules.l.getD s.rule.toNat default).head) then(v (p.rules.l.getD s.rule.toNat default).head.toNat==3) else false) then cx v (p.rules.l.getD s.rule.toNat default) else false)=false:=by
    unfold cR at h
    rw[decide_eq_true hA,show(s.atoms.l.length==1)=true by rw[beq_iff_eq];omega] at h
    revert h
    cases (s.atoms.l.getD 0 0==(p.rules.l.getD s.rule.toNat default).head) <;> cases (v (p.rules.l.getD s.rule.toNat default).head.toNat==3) <;> cases cx v (p.rules.l.getD s.rule.toNat default) <;> simp
   refine spW (nt:=66) (rs:=[]) (k0:=2) ?_
   refine vcR [] (lkL [(0,[1,2]),(1,[1,2]),(2,[1,2,4]),(3,[1,4])]) (lkL [(1,[(10,ROrc.pcall (AV.bool (decide (0<=s.rule/\s.rule<=(↑(List.length p.rules.l):Int)-1)))),(18,ROrc.pcall (tup 0 (nth [])))]),(2,[(11,ROrc.val (Orc.obj (nth [int i64 (List.getD p.rules.l (Int.toNat s.rule) default).head,ap (List.getD p.rules.l (Int.toNat s.rule) default).body])))]),(3,[(15,ROrc.kop (int i64 (v (Int.toNat (List.getD p.rules.l (Int.toNat s.rule) default).head)))),(23,ROrc.kcall (AV.bool (cx v (List.getD p.rules.l (Int.toNat s.rule) default)))),(25,ROrc.cpan (ifc 145 (agg 0 (nth []))) [cells false 27 (ad p v (AV.mp 1)),AObj.map es,cells false 2 (nth [int i64 s.rule,ah s.atoms]),cells false 2 (nth [int i64 (List.getD p.rules.l (Int.toNat s.rule) default).head,ap (List.getD p.rules.l (Int.toNat s.rule) default).body])] g)])]) (fun Q=>(fun (u1:Rule)=>(fun (u2:List AObj)=>(fun (u3:Int)=>(fun (u4:Bool)=>(fun (u5:Bool)=>(fun (u6:Bool)=>(fun (u7:Bool)=>(fun (u8:Option (List Nat))=>(fun (u9:Option (Nat × Bool))=>u7=true/\1<=2/\2<=27/\(-9223372036854775808<=u3/\u3<=9223372036854775807)/\(∀(hp:List AObj) (g:R.σ),true=true/\Does Tryd.prog R 58 [int i64 s.rule,int i64 0,int i64 u3] hp g (ret (AV.bool u6)) hp g)/\(u6=true->2<=2)/\(∀(hp:List AObj) (g:R.σ),true=true/\Does Tryd.prog R 140 [AV.bool (bif u6 then(↑(List.length s.atoms.l):Int)==1 else false)] hp g (ret (tup 0 (nth []))) hp g)/\u7=true/\2<=27/\1<=2/\(0<=s.rule/\s.rule<(↑(List.length p.rules.l):Int))/\2<=2/\2<=2/\(∀(c:Nat),c<2->nth [int i64 u1.head,ap u1.body] c=aj (nth [int i64 0,fz Fz.nil 0 0 fun x x_1=>any]) 0 2 (List.brecOn (motive:=fun (x:List AV)=>Nat->AV) [int i64 u1.head,ap u1.body] nth._f) c)/\u7=true/\2<=2/\((↑0:Int)<=0/\0<(↑(List.length s.atoms.l):Int))/\1<=1/\1<=2/\(u4=true->1<=2)/\(u4=true->0<=u1.head/\u1.head<(↑24:Int))/\(u4=true->OpOk Tryd.prog R (Oper.mk (some 49) (Op.load 43 (Operand.tmp 48)) 43 "table.go:147" #[Edge.mk 14 Ground.data,Edge.mk 8 Ground.guard] u9) (evO [Row.mk (some 48) u9 (ref 0 (Int.toNat u1.head+2)) false u8 [],Row.mk (some 47) u9 (ref 0 2) false u8 [],Row.mk (some 46) u9 (ref 0 0) false u8 [],Row.mk (some 45) u9 (int i64 u1.head) false u8 [3],Row.mk (some 44) u9 (ref 3 0) false u8 [],Row.mk (some 43) u9 (ref 0 0) false u8 [],Row.mk (some 42) none (AV.bool u4) false u8 [],Row.mk (some 41) none (AV.bool u4) false u8 [],Row.mk (some 40) none (int i64 u1.head) false u8 [3],Row.mk (some 39) none (ref 3 0) false u8 [],Row.mk (some 38) none (int i64 (List.getD s.atoms.l 0 0)) false u8 [],Row.mk (some 37) none (fp 1 fun x=>int i64 (List.getD s.atoms.l 0 0)) false u8 [],Row.mk (some 36) none (ah s.atoms) false u8 [2],Row.mk (some 35) none (ref 2 1) false u8 [],Row.mk (some 34) none (ref 2 0) false u8 []] [(1,ref 0 0),(2,ref 2 0),(4,ref 3 0)] [(8,true)]) u2 g (int i64 (v (Int.toNat u1.head))) u2 g)/\(u5=true->2<=2)/\(u5=true->true=true/\Does Tryd.prog R 114 [ref 0 2,bQ u1] u2 g (ret (AV.bool (cx v u1))) u2 g)/\(true=true/\Does Tryd.prog R 140 [AV.bool (bif u5 then cx v u1 else false)] u2 g (Oc.pan (ifc 145 (agg 0 (nth [])))) u2 g)/\Q (AEx.pan (ifc 145 (agg 0 (nth [])))) (St.mk [(1,ref 0 0),(4,ref 3 0)] u2 g)) (some (8,true))) (some [])) (Tables.follows Tryd.prog.toTables Departure.mixedOrders)) (decide (0<=s.rule/\s.rule<=u3))) (bif u4 then v (Int.toNat u1.head)==3 else false)) (List.getD s.atoms.l 0 0==u1.head)) ((↑(List.length p.rules.l):Int)-1)) ([cells false 27 (ad p v (AV.mp 1)),AObj.map es,cells false 2 (nth [int i64 s.rule,ah s.atoms]),cells false 2 (nth [int i64 u1.head,ap u1.body])])) (List.getD p.rules.l (Int.toNat s.rule) default)) ⟨krf,omg,omg,omg,(fun _ _=>⟨rfl,(dD _ _ _ _ _ _)⟩),omg,(fun _ _=>⟨rfl,(dQ _ _ (by simp at * <;> omega) _ _)⟩),krf,omg,omg,omg,omg,omg,(fun c hc=>match c,hc with|0,_=>krf|1,_=>krf ),krf,omg,omg,omg,omg,omg,omg,?_,omg,(fun hgd=>⟨rfl,(doS [0,1] 4 (fun R g=>lj R (p) (v) (es) (List.getD p.rules.l (Int.toNat s.rule) default) omg g))⟩),⟨rfl,(iC _ _ omg _ _)⟩,?_⟩
   ·intro _
    exact dC rfl rfl krf rfl (by show _+1<=27;omega) (dX omg omg)
   ·refine(jy (P:=Tryd.prog) (rs:=[]) 2 omg trivial ⟨(fun _ _=>(by first|exact trivial|apply aV)),trivial⟩ krf rfl (Af _))
  ·refine spW (nt:=66) (rs:=[]) (k0:=2) ?_
   refine vcR [] (lkL [(0,[1,2]),(1,[1,2])]) (lkL [(1,[(10,ROrc.pcall (AV.bool (decide (0<=s.rule/\s.rule<=(↑(List.length p.rules.l):Int)-1)))),(18,ROrc.cpan (ifc 145 (agg 0 (nth []))) [cells false 27 (ad p v (AV.mp 1)),AObj.map es,cells false 2 (nth [int i64 s.rule,ah s.atoms])] g)])]) (fun Q=>(fun (u1:Int)=>(fun (u2:List AObj)=>(fun (u3:Bool)=>Flw Tryd.prog/\1<=2/\2<=27/\(-9223372036854775808<=u1/\u1<=9223372036854775807)/\(∀(hp:List AObj) (g:R.σ),true=true/\Does Tryd.prog R 58 [int i64 s.rule,int i64 0,int i64 u1] hp g (ret (AV.bool u3)) hp g)/\(u3=true->2<=2)/\(true=true/\Does Tryd.prog R 140 [AV.bool (bif u3 then(↑(List.length s.atoms.l):Int)==1 else false)] u2 g (Oc.pan (ifc 145 (agg 0 (nth [])))) u2 g)/\Q (AEx.pan (ifc 145 (agg 0 (nth [])))) (St.mk [(1,ref 0 0),(2,ref 2 0)] u2 g)) (decide (0<=s.rule/\s.rule<=u1))) ([cells false 27 (ad p v (AV.mp 1)),AObj.map es,cells false 2 (nth [int i64 s.rule,ah s.atoms])])) ((↑(List.length p.rules.l):Int)-1)) ⟨krf,omg,omg,omg,(fun _ _=>⟨rfl,(dD _ _ _ _ _ _)⟩),omg,⟨rfl,(iC _ _ (by simp at * <;> omega) _ _)⟩,?_⟩
   refine(jy (P:=Tryd.prog) (rs:=[]) 2 omg trivial ⟨(fun _ _=>(by first|exact trivial|apply aV)),trivial⟩ krf rfl (Af _))
 ·refine spW (nt:=66) (rs:=[]) (k0:=2) ?_
  refine vcR [] (lkL [(0,[1,2]),(1,[1,2])]) (lkL [(1,[(10,ROrc.pcall (AV.bool (decide (0<=s.rule/\s.rule<=(↑(List.length p.rules.l):Int)-1)))),(18,ROrc.cpan (ifc 145 (agg 0 (nth []))) [cells false 27 (ad p v (AV.mp 1)),AObj.map es,cells false 2 (nth [int i64 s.rule,ah s.atoms])] g)])]) (fun Q=>(fun (u1:Int)=>(fun (u2:List AObj)=>(fun (u3:Bool)=>Flw Tryd.prog/\1<=2/\2<=27/\(-9223372036854775808<=u1/\u1<=9223372036854775807)/\(∀(hp:List AObj) (g:R.σ),true=true/\Does Tryd.prog R 58 [int i64 s.rule,int i64 0,int i64 u1] hp g (ret (AV.bool u3)) hp g)/\(u3=true->2<=2)/\(true=true/\Does Tryd.prog R 140 [AV.bool (bif u3 then(↑(List.length s.atoms.l):Int)==1 else false)] u2 g (Oc.pan (ifc 145 (agg 0 (nth [])))) u2 g)/\Q (AEx.pan (ifc 145 (agg 0 (nth [])))) (St.mk [(1,ref 0 0),(2,ref 2 0)] u2 g)) (decide (0<=s.rule/\s.rule<=u1))) ([cells false 27 (ad p v (AV.mp 1)),AObj.map es,cells false 2 (nth [int i64 s.rule,ah s.atoms])])) ((↑(List.length p.rules.l):Int)-1)) ⟨krf,omg,omg,omg,(fun _ _=>⟨rfl,(dD _ _ _ _ _ _)⟩),omg,⟨rfl,(iC _ _ (by simp at * <;> omega) _ _)⟩,?_⟩
  refine(jy (P:=Tryd.prog) (rs:=[]) 2 omg trivial ⟨(fun _ _=>(by first|exact trivial|apply aV)),trivial⟩ krf rfl (Af _))
def aJ (l:List Int):Nat:=l.foldl (fun s a=>s|||2^a.toNat) 0
def ep (p:Prg)(l:List Int)(i:Nat):Bool:=bif decide (0<=l.getD i 0/\l.getD i 0<=p.atoms-1) then bif (i:Int)==0 then true else decide (l.getD i 0 > l.getD ((i:Int)-1).toNat 0) else false
def eG (p:Prg)(v:Nat->Int)(l:List Int)(i:Nat):Bool:=bif ep p l i then v (l.getD i 0).toNat==3 else false
theorem jN {p:Prg}{l:List Int}{i:Nat}(h:ep p l i=true):0<=l.getD i 0/\l.getD i 0<=p.atoms-1:=by
 unfold ep at h
 by_cases hA:0<=l.getD i 0/\l.getD i 0<=p.atoms-1
 ·exact hA
 ·rw[decide_eq_false hA] at h;cases h
theorem lq {p:Prg}{v:Nat->Int}{l:List Int}{i:Nat}(h:eG p v l i=true):ep p l i=true:=by
 unfold eG at h
 cases hp:ep p l i with
 |true=>rfl
 |false=>rw[hp] at h;cases h
def db (p:Prg)(v:Nat->Int)(l:List Int):Bool:=decide (0<l.length)&&(List.range l.length).all (eG p v l)
def dE (p:Prg)(v:Nat->Int)(s:Nat):Bool:= !(ai s).any (fun a=>(ofH p.rules.l a).any (aZ v s))
def dF (p:Prg)(v:Nat->Int)(s:Step):Bool:=db p v s.atoms.l&&dE p v (aJ s.atoms.l)
def bW (v:Nat->Int)(s:Nat):Nat->Int:=fun b=>if s.testBit b then 1 else v b
theorem f7 {s b:Nat}(hs:s<2^24)(h:s.testBit b=true):b<24:=
 (Nat.pow_lt_pow_iff_right dcd).1 (Nat.lt_of_le_of_lt (Nat.ge_two_pow_of_testBit h) hs)
theorem nA {l:List Int}{i:Nat}(h:i<l.length):aJ (l.take (i+1))=aJ (l.take i)|||2^(l.getD i 0).toNat:=by
 unfold aJ
 rw[List.take_add_one,List.foldl_append,List.getElem?_eq_getElem h,List.getD_eq_getElem?_getD,List.getElem?_eq_getElem h]
 rfl
theorem wR (R:Res)[Tab LT R](p:Prg)(v:Nat->Int)(es:List (Value × AV))(s:Step)(hl:p.rules.l.length<1000000)(hr:∀r,r∈p.rules.l->aI r)(hes:HeadsOk es p.rules.l)(hp:1<=p.atoms/\p.atoms<=24)(hsl:s.atoms.l.length<1000000)(h:db p v s.atoms.l=true->dE p v (aJ s.atoms.l)=true)(g:R.σ):Does Tryd.prog R 139 [a9 s,.ref 0 0] [.cells false 27 (ad p v (.mp 1)),.map es] g (ra (dF p v s)) [.cells false 27 (ad p (match dF p v s with|true=>bW v (aJ s.atoms.l)|false=>v) (.mp 1)),.map es] g:=by
 by_cases h0:(s.atoms.l.length:Int) > 0
 ·refine spW (nt:=79) (rs:=[]) (k0:=2) ?_
  refine vcR [] (lkL [(0,[2,3]),(1,[2,3]),(2,[2,3,4]),(3,[2,3,4,17,18,19])]) (lkL [(1,[(5,ROrc.pcall (tup 0 (nth [])))])]) (fun Q=>(fun (u1:Int)=>2<=2/\(∀(hp:List AObj) (g:R.σ),true=true/\Does Tryd.prog R 140 [AV.bool (decide (u1 > 0))] hp g (ret (tup 0 (nth []))) hp g)/\2<=2/\WpC Tryd.prog R 79 2 139 [1,1,1,0,1,0] Q [Kont.blk 0,Kont.seq [1,1,1,1]] (St.mk [(2,ref 2 0),(3,ref 3 0),(4,ref 4 0),(17,ah s.atoms),(18,int i64 u1),(19,int i64 0)] [cells false 27 (ad p v (AV.mp 1)),AObj.map es,cells false 2 (nth [int i64 s.rule,ah s.atoms]),cells false 1 fun a=>ref 0 0,cells false 1 fun a=>int u64 0] g)) ((↑(List.length s.atoms.l):Int))) ⟨omg,(fun _ _=>⟨rfl,(dQ _ _ (by simp at * <;> omega) _ _)⟩),omg,?_⟩
  refine(bl krf (fun (i:Nat)=>⟨[(2,ref 2 0),(3,ref 3 0),(4,ref 4 0),(17,ah s.atoms),(18,int i64 (s.atoms.l.length:Int)),(19,.int .i64 i)],[.cells false 27 (ad p v (.mp 1)),.map es,.cells false 2 (nth [.int .i64 s.rule,ah s.atoms]),.cells false 1 (fun _=>.ref 0 0),.cells false 1 (fun _=>.int .u64 (aJ (s.atoms.l.take i)))],g⟩) (fun (i:Nat)=>(i<=s.atoms.l.length/\aJ (s.atoms.l.take i)<2^24/\∀j,j<i->eG p v s.atoms.l j=true)) (fun (i:Nat)=>(s.atoms.l.length-i)) 0 (toL (h1:=⟨Af _,Af _,Af _,Af _,Af _,(Ag krf),trivial⟩)) ?_ (fun i hi=>?_))
  ·exact⟨Nat.zero_le _,(by decide:(0:Nat)<2^24),fun j hj=>absurd hj omg⟩
  ·obtain⟨h1,h2,h3⟩:=hi
   rcases Nat.lt_or_ge i s.atoms.l.length with hlt|hge
   ·have hx:=nA hlt
    cases hm:eG p v s.atoms.l i with
    |true=>
     have hm':(bif ep p s.atoms.l i then v (s.atoms.l.getD i 0).toNat==3 else false)=true:=hm
     have hA:=jN (lq hm)
     refine vcR [] (lkL [(4,[2,3,4,17,18,19,20]),(5,[2,3,4,5,6,17,18,19]),(6,[2,3,4,6,17,18,19]),(7,[2,3,4,17,18,19]),(8,[2,3,4,17,18,19])]) (lkL [(6,[(7,ROrc.pcall (AV.bool (decide (0<=List.getD s.atoms.l i 0/\List.getD s.atoms.l i 0<=p.atoms-1)))),(29,ROrc.kop (int i64 (v (Int.toNat (List.getD s.atoms.l i 0))))),(32,ROrc.pcall (tup 0 (nth [])))]),(7,[(2,ROrc.pcall (int u64 (↑(2^Int.toNat (List.getD s.atoms.l i 0)):Int))),(4,ROrc.val (Orc.obj (nth [int u64 (IntKind.wrap u64 (↑(BitVec.toNat (BitVec.ofInt 64 (↑(aJ (List.take i s.atoms.l)):Int)|||BitVec.ofInt 64 (↑(2^Int.toNat (List.getD s.atoms.l i 0)):Int))):Int))])))])]) (fun Q=>(fun (u1:Int)=>(fun (u2:Int)=>(fun (u3:Bool)=>(fun (u4:List AObj)=>(fun (u5:AV)=>(fun (u6:Int)=>(fun (u7:Int)=>(fun (u8:Bool)=>(fun (u9:Option (List Nat))=>(fun (u10:Option (Nat × Bool))=>(decide (u7<u6)=true->(0<=u7/\u7<u6)/\1<=1/\1<=1/\1<=27/\(-9223372036854775808<=p.atoms-1/\p.atoms-1<=9223372036854775807)/\(∀(hp:List AObj) (g:R.σ),true=true/\Does Tryd.prog R 58 [int i64 u1,int i64 0,int i64 (p.atoms-1)] hp g (ret (AV.bool u8)) hp g)/\((u8 && !u7==0)=true->2<=2)/\((u8 && !u7==0)=true -> -9223372036854775808<=u7-1/\u7-1<=9223372036854775807)/\((u8 && !u7==0)=true->0<=u7-1/\u7-1<u6)/\((u8 && !u7==0)=true->1<=1)/\(u3=true->1<=1)/\(u3=true->0<=u1/\u1<(↑24:Int))/\(u3=true->OpOk Tryd.prog R (Oper.mk (some 53) (Op.load 43 (Operand.tmp 52)) 43 "table.go:155" #[Edge.mk 28 Ground.data,Edge.mk 23 Ground.guard] (some (23,true))) (evO [Row.mk (some 52) (some (23,true)) (ref 0 (Int.toNat u1+2)) false u9 [],Row.mk (some 51) (some (23,true)) (ref 0 2) false u9 [],Row.mk (some 50) (some (23,true)) (ref 0 0) false u9 [],Row.mk (some 49) (some (23,true)) (int i64 u1) false u9 [],Row.mk (some 48) (some (23,true)) (ref 0 0) false u9 [3],Row.mk (some 47) none (AV.bool u3) false u9 [],Row.mk (some 46) none (AV.bool u3) false u9 [],Row.mk (some 45) (some (8,true)) (AV.bool (bif u7==0 then true else decide (u1 > u2))) false u9 [],Row.mk (some 44) u10 (AV.bool (decide (u1 > u2))) false u9 [],Row.mk (some 43) u10 (int i64 u2) false u9 [],Row.mk (some 42) u10 (fp 1 fun x=>int i64 u2) false u9 [],Row.mk (some 41) u10 (int i64 (u7-1)) false u9 [],Row.mk (some 40) u10 (int i64 u7) false u9 [],Row.mk (some 39) u10 (ah s.atoms) false u9 [2],Row.mk (some 38) u10 (ref 2 1) false u9 [],Row.mk (some 37) u10 (ref 2 0) false u9 [],Row.mk (some 36) u10 (int i64 u1) false u9 [],Row.mk (some 35) (some (8,true)) (AV.bool (u7==0)) false u9 [],Row.mk (some 34) (some (8,true)) (AV.bool (u7==0)) false u9 [],Row.mk (some 33) (some (8,true)) (int i64 u7) false u9 [],Row.mk (some 32) none (AV.bool u8) false u9 [],Row.mk (some 31) none (AV.bool u8) false u9 [],Row.mk (some 30) none (int i64 (p.atoms-1)) false u9 [],Row.mk (some 29) none (int i64 p.atoms) false u9 [0],Row.mk (some 28) none (ref 0 0) false u9 [],Row.mk (some 27) none (ref 0 0) false u9 [],Row.mk (some 26) none (ref 0 0) false u9 [],Row.mk (some 25) none (ref 0 0) false u9 [3],Row.mk (some 24) none (int i64 u1) false u9 []] [(2,ref 2 0),(3,ref 3 0),(4,ref 4 0),(5,int i64 u7),(6,int i64 u1),(17,ah s.atoms),(18,int i64 u6),(19,int i64 u7)] [(23,true)]) u4 g (int i64 (v (Int.toNat u1))) u4 g)/\(∀(hp:List AObj) (g:R.σ),true=true/\Does Tryd.prog R 140 [AV.bool (bif u3 then v (Int.toNat u1)==3 else false)] hp g (ret (tup 0 (nth []))) hp g)/\Flw Tryd.prog/\1<=1/\(∀(hp:List AObj) (g:R.σ),true=true/\Does Tryd.prog R 79 [int i64 u1] hp g (ret (int u64 (↑(2^Int.toNat u1):Int))) hp g)/\1<=1/\(∀(c:Nat),c<1->nth [u5] c=aj (fun (x:Nat)=>int u64 (↑(aJ (List.take i s.atoms.l)):Int)) 0 1 (fun (x:Nat)=>u5) c)/\(-9223372036854775808<=u7+1/\u7+1<=9223372036854775807)/\Q AEx.normal (St.mk [(2,ref 2 0),(3,ref 3 0),(4,ref 4 0),(17,ah s.atoms),(18,int i64 u6),(19,int i64 (u7+1))] [cells false 27 (ad p v (AV.mp 1)),AObj.map es,cells false 2 (nth [int i64 s.rule,ah s.atoms]),cells false 1 fun x=>ref 0 0,cells false 1 (nth [u5])] g))/\(decide (u7<u6)=false->Q (AEx.exit 0) (St.mk [(2,ref 2 0),(3,ref 3 0),(4,ref 4 0),(17,ah s.atoms),(18,int i64 u6),(19,int i64 u7),(20,AV.bool (decide (u7<u6)))] u4 g))) (some (11,false))) (some [])) (decide (0<=u1/\u1<=p.atoms-1))) ((↑i:Int))) ((↑(List.length s.atoms.l):Int))) (int u64 (IntKind.wrap u64 (↑(BitVec.toNat (BitVec.ofInt 64 (↑(aJ (List.take i s.atoms.l)):Int)|||BitVec.ofInt 64 (↑(2^Int.toNat u1):Int))):Int)))) ([cells false 27 (ad p v (AV.mp 1)),AObj.map es,cells false 2 (nth [int i64 s.rule,ah s.atoms]),cells false 1 fun x=>ref 0 0,cells false 1 fun x=>int u64 (↑(aJ (List.take i s.atoms.l)):Int)])) (bif decide (0<=u1/\u1<=p.atoms-1) then bif (↑i:Int)==0 then true else decide (u1 > u2) else false)) (List.getD s.atoms.l (Int.toNat ((↑i:Int)-1)) 0)) (List.getD s.atoms.l i 0)) ⟨fun c1=>have c1:(↑i:Int)<(↑(List.length s.atoms.l):Int):=(of_decide_eq_true c1);⟨omg,omg,omg,omg,omg,(fun _ _=>⟨rfl,(dD _ _ _ _ _ _)⟩),omg,omg,(by intro h;simp at h <;> omega),omg,omg,omg,?_,(fun _ _=>⟨rfl,(dQ _ _ (by assumption) _ _)⟩),krf,omg,(fun _ _=>⟨rfl,(dY _ _ omg _ _)⟩),omg,(fun c hc=>match c,hc with|0,_=>krf ),omg,?_⟩,fun c1=>have c1:¬(↑i:Int)<(↑(List.length s.atoms.l):Int):=(of_decide_eq_false c1);?_⟩
     ·intro _
      exact dC rfl rfl krf rfl (by show _+1<=27;omega) (dX omg omg)
     ·refine(aU (i+1) (toL (h1:=⟨Af _,Af _,Af _,Af _,Af _,(Ag krf),trivial⟩) (h2:=⟨Ah,rfl,Ah,Ah,⟨rfl,Nat.le_refl _,fun j hj=>match j,hj with|0,_=>(Ag ?_) ⟩,trivial⟩)) ?_ ?_)
      ·show AV.int .u64 _=AV.int .u64 _
       congr 1
       rw[hx]
       exact Tb.u64_or (bC h2) (bC (Nat.pow_lt_pow_right dcd omg))
      ·refine⟨omg,?_,fun j hj=>?_⟩
       ·rw[hx]
        exact Nat.or_lt_two_pow h2 (Nat.pow_lt_pow_right dcd omg)
       ·rcases Nat.lt_or_ge j i with h|h
        ·exact h3 j h
        ·have:j=i:=by omega
         subst this
         exact hm
      ·omega
     all_goals (exfalso;omega)
    |false=>
     have hm':(bif ep p s.atoms.l i then v (s.atoms.l.getD i 0).toNat==3 else false)=false:=hm
     have hf:dF p v s=false:=by
      unfold dF db
      rw[show(List.range s.atoms.l.length).all (eG p v s.atoms.l)=false from List.all_eq_false.2 ⟨i,by simpa using hlt,by rw[hm];simp⟩]
      simp
     rw[hf]
     refine vcR [] (lkL [(4,[2,3,4,17,18,19,20]),(5,[2,3,4,5,6,17,18,19]),(6,[2,3,4,6,17,18,19])]) (lkL [(6,[(7,ROrc.pcall (AV.bool (decide (0<=List.getD s.atoms.l i 0/\List.getD s.atoms.l i 0<=p.atoms-1)))),(29,ROrc.kop (int i64 (v (Int.toNat (List.getD s.atoms.l i 0))))),(32,ROrc.cpan (ifc 145 (agg 0 (nth []))) [cells false 27 (ad p v (AV.mp 1)),AObj.map es,cells false 2 (nth [int i64 s.rule,ah s.atoms]),cells false 1 fun (x:Nat)=>ref 0 0,cells false 1 fun (x:Nat)=>int u64 (↑(aJ (List.take i s.atoms.l)):Int)] g)])]) (fun Q=>(fun (u1:Int)=>(fun (u2:List AObj)=>(fun (u3:Int)=>(fun (u4:Bool)=>(fun (u5:Int)=>(fun (u6:Int)=>(fun (u7:Bool)=>(fun (u8:Option (List Nat))=>(fun (u9:Option (Nat × Bool))=>(fun (u10:List (Nat × AV))=>(decide (u6<u5)=true->(0<=u6/\u6<u5)/\1<=1/\1<=1/\1<=27/\(-9223372036854775808<=p.atoms-1/\p.atoms-1<=9223372036854775807)/\(∀(hp:List AObj) (g:R.σ),true=true/\Does Tryd.prog R 58 [int i64 u1,int i64 0,int i64 (p.atoms-1)] hp g (ret (AV.bool u7)) hp g)/\((u7 && !u6==0)=true->2<=2)/\((u7 && !u6==0)=true -> -9223372036854775808<=u6-1/\u6-1<=9223372036854775807)/\((u7 && !u6==0)=true->0<=u6-1/\u6-1<u5)/\((u7 && !u6==0)=true->1<=1)/\(u4=true->1<=1)/\(u4=true->0<=u1/\u1<(↑24:Int))/\(u4=true->OpOk Tryd.prog R (Oper.mk (some 53) (Op.load 43 (Operand.tmp 52)) 43 "table.go:155" #[Edge.mk 28 Ground.data,Edge.mk 23 Ground.guard] (some (23,true))) (evO [Row.mk (some 52) (some (23,true)) (ref 0 (Int.toNat u1+2)) false u8 [],Row.mk (some 51) (some (23,true)) (ref 0 2) false u8 [],Row.mk (some 50) (some (23,true)) (ref 0 0) false u8 [],Row.mk (some 49) (some (23,true)) (int i64 u1) false u8 [],Row.mk (some 48) (some (23,true)) (ref 0 0) false u8 [3],Row.mk (some 47) none (AV.bool u4) false u8 [],Row.mk (some 46) none (AV.bool u4) false u8 [],Row.mk (some 45) (some (8,true)) (AV.bool (bif u6==0 then true else decide (u1 > u3))) false u8 [],Row.mk (some 44) u9 (AV.bool (decide (u1 > u3))) false u8 [],Row.mk (some 43) u9 (int i64 u3) false u8 [],Row.mk (some 42) u9 (fp 1 fun x=>int i64 u3) false u8 [],Row.mk (some 41) u9 (int i64 (u6-1)) false u8 [],Row.mk (some 40) u9 (int i64 u6) false u8 [],Row.mk (some 39) u9 (ah s.atoms) false u8 [2],Row.mk (some 38) u9 (ref 2 1) false u8 [],Row.mk (some 37) u9 (ref 2 0) false u8 [],Row.mk (some 36) u9 (int i64 u1) false u8 [],Row.mk (some 35) (some (8,true)) (AV.bool (u6==0)) false u8 [],Row.mk (some 34) (some (8,true)) (AV.bool (u6==0)) false u8 [],Row.mk (some 33) (some (8,true)) (int i64 u6) false u8 [],Row.mk (some 32) none (AV.bool u7) false u8 [],Row.mk (some 31) none (AV.bool u7) false u8 [],Row.mk (some 30) none (int i64 (p.atoms-1)) false u8 [],Row.mk (some 29) none (int i64 p.atoms) false u8 [0],Row.mk (some 28) none (ref 0 0) false u8 [],Row.mk (some 27) none (ref 0 0) false u8 [],Row.mk (some 26) none (ref 0 0) false u8 [],Row.mk (some 25) none (ref 0 0) false u8 [3],Row.mk (some 24) none (int i64 u1) false u8 []] ((2,ref 2 0)::(3,ref 3 0)::(4,ref 4 0)::(5,int i64 u6)::u10) [(23,true)]) u2 g (int i64 (v (Int.toNat u1))) u2 g)/\(true=true/\Does Tryd.prog R 140 [AV.bool (bif u4 then v (Int.toNat u1)==3 else false)] u2 g (Oc.pan (ifc 145 (agg 0 (nth [])))) u2 g)/\Q (AEx.pan (ifc 145 (agg 0 (nth [])))) (St.mk ((2,ref 2 0)::(3,ref 3 0)::(4,ref 4 0)::u10) u2 g))/\(decide (u6<u5)=false->Q (AEx.exit 0) (St.mk [(2,ref 2 0),(3,ref 3 0),(4,ref 4 0),(17,ah s.atoms),(18,int i64 u5),(19,int i64 u6),(20,AV.bool (decide (u6<u5)))] u2 g))) ([(6,int i64 u1),(17,ah s.atoms),(18,int i64 u5),(19,int i64 u6)])) (some (11,false))) (some [])) (decide (0<=u1/\u1<=p.atoms-1))) ((↑i:Int))) ((↑(List.length s.atoms.l):Int))) (bif decide (0<=u1/\u1<=p.atoms-1) then bif (↑i:Int)==0 then true else decide (u1 > u3) else false)) (List.getD s.atoms.l (Int.toNat ((↑i:Int)-1)) 0)) ([cells false 27 (ad p v (AV.mp 1)),AObj.map es,cells false 2 (nth [int i64 s.rule,ah s.atoms]),cells false 1 fun x=>ref 0 0,cells false 1 fun x=>int u64 (↑(aJ (List.take i s.atoms.l)):Int)])) (List.getD s.atoms.l i 0)) ⟨fun c1=>have c1:(↑i:Int)<(↑(List.length s.atoms.l):Int):=(of_decide_eq_true c1);⟨omg,omg,omg,omg,omg,(fun _ _=>⟨rfl,(dD _ _ _ _ _ _)⟩),omg,omg,(by intro h;simp at h <;> omega),omg,omg,(by intro h;simp at h <;> simp <;> omega),?_,⟨rfl,(iC _ _ (by assumption) _ _)⟩,?_⟩,fun c1=>have c1:¬(↑i:Int)<(↑(List.length s.atoms.l):Int):=(of_decide_eq_false c1);?_⟩
     ·intro hg
      have hA:=jN hg
      exact dC rfl rfl krf rfl (by show _+1<=27;omega) (dX omg omg)
     ·refine(jy (P:=Tryd.prog) (rs:=[]) 2 omg trivial ⟨(fun _ _=>(by first|exact trivial|apply aV)),trivial⟩ krf rfl (Af _))
     all_goals (exfalso;omega)
   ·have hi':i=s.atoms.l.length:=by omega
    subst hi'
    rw[List.take_length] at h2 ⊢
    have hall:db p v s.atoms.l=true:=by
     unfold db
     rw[decide_eq_true omg,Bool.true_and,List.all_eq_true]
     exact fun j hj=>h3 j (by simpa using hj)
    have hns:=h hall
    have ht:dF p v s=true:=by unfold dF;rw[hall,hns];rfl
    rw[ht]
    obtain⟨S,hS⟩:∃S,aJ s.atoms.l=S:=⟨_,rfl⟩
    rw[hS] at h2 hns ⊢
    have hseq:=lf S h2
    obtain⟨l,hle⟩:∃l,ai S=l:=⟨_,rfl⟩
    rw[hle] at hseq
    have hb:decide ((s.atoms.l.length:Int)<(s.atoms.l.length:Int))=false:=decide_eq_false omg
    refine vcR [[1,1,1,0,1,0,0,1,0,0]] (lkL [(4,[2,3,4,17,18,19,20])]) (fun _=>[]) (fun Q=>(fun (u1:Int)=>(fun (u2:St R.σ)=>(decide (u1<u1)=true->WpC Tryd.prog R 79 2 139 [1,1,1,0,1,0,0,1,0,0] Q [Kont.seq [1,1,1,0,1,0,0,1,1]] u2)/\(decide (u1<u1)=false->Q (AEx.exit 0) u2)) (St.mk [(2,ref 2 0),(3,ref 3 0),(4,ref 4 0),(17,ah s.atoms),(18,int i64 u1),(19,int i64 u1),(20,AV.bool (decide (u1<u1)))] [cells false 27 (ad p v (AV.mp 1)),AObj.map es,cells false 2 (nth [int i64 s.rule,ah s.atoms]),cells false 1 fun x=>ref 0 0,cells false 1 fun x=>int u64 (↑S:Int)] g)) ((↑(List.length s.atoms.l):Int))) ⟨fun hcc=>(nomatch (hb.symm.trans hcc)),fun _=>?_⟩
    refine⟨_,Ar _,vcR [] (lkL [(9,[3,4,63])]) (lkL [(9,[(1,ROrc.call (fn 105 0 (nth []) 1 (nth [ref (List.length [cells false 27 (ad p v (AV.mp 1)),AObj.map es,cells false 2 (nth [int i64 s.rule,ah s.atoms]),cells false 1 fun (x:Nat)=>ref 0 0,cells false 1 fun (x:Nat)=>int u64 (↑S:Int)]) 0])) ([cells false 27 (ad p v (AV.mp 1)),AObj.map es,cells false 2 (nth [int i64 s.rule,ah s.atoms]),cells false 1 fun (x:Nat)=>ref 0 0,cells false 1 fun (x:Nat)=>int u64 (↑S:Int)]++[cells false 1 fun (x:Nat)=>int u64 (↑S:Int)]) g)])]) (fun Q=>(fun (u1:List AObj)=>1<=1/\(true=true/\Does Tryd.prog R 77 [int u64 (↑S:Int)] [cells false 27 (ad p v (AV.mp 1)),AObj.map es,cells false 2 (nth [int i64 s.rule,ah s.atoms]),cells false 1 fun x=>ref 0 0,cells false 1 fun x=>int u64 (↑S:Int)] g (ret (fn 105 0 (nth []) 1 (nth [ref 5 0]))) u1 g)/\WpC Tryd.prog R 79 2 139 [1,1,1,1,0,1,0] Q [Kont.blk 2,Kont.seq [1,1,1,1,1]] (St.mk [(3,ref 3 0),(4,ref 4 0),(63,fn 105 0 (nth []) 1 (nth [ref 5 0]))] u1 g)) ([cells false 27 (ad p v (AV.mp 1)),AObj.map es,cells false 2 (nth [int i64 s.rule,ah s.atoms]),cells false 1 fun x=>ref 0 0,cells false 1 fun x=>int u64 (↑S:Int),cells false 1 fun x=>int u64 (↑S:Int)])) ⟨omg,⟨rfl,(cQ _ _ _ _)⟩,?_⟩⟩
    have hin:∀k,k<l.length->l.getD k 0<24:=fun k hk=>by
     have h:=bR l 0 hk
     have h':l.getD k 0∈ai S:=by rw[hle];exact h
     exact(Tb.mem_memN.1 h').1
    have hns':∀k,k<l.length->(ofH p.rules.l (l.getD k 0)).any (aZ v S)=false:=fun k hk=>by
     unfold dE at hns
     rw[hle,Bool.not_eq_true'] at hns
     have:=List.any_eq_false.1 hns _ (bR l 0 hk)
     cases h:(ofH p.rules.l (l.getD k 0)).any (aZ v S) with
     |false=>rfl
     |true=>exact absurd h this
    refine iw 63 [64] 5 krf rfl rfl rfl hseq (fun _=>rfl) krf (fun _=>⟨trivial,trivial⟩)
     (fun _=>none) (fun _=>rfl)
     (fun _=>[.cells false 27 (ad p v (.mp 1)),.map es,.cells false 2 (nth [.int .i64 s.rule,ah s.atoms]),.cells false 1 (fun _=>.ref 0 0),.cells false 1 (fun _=>.int .u64 S)])
     (fun _=>g) (fx rfl rfl) (fun _=>rfl) (by exact⟨omg,omg,omg,omg,omg,trivial⟩) (by exact⟨fun j _=>aV _ _ 3 _,trivial,fun j hj=>(match j with|0=>trivial|1=>trivial|_+2=>trivial),fun _ _=>show 0<5 by omega,fun _ _=>trivial,trivial⟩) (by exact⟨fun _ _=>trivial,trivial⟩) [3,4] (by exact⟨show 3<5 by omega,show 4<5 by omega,trivial⟩) (fun k l' hk hjk=>?_) (fun _=>?_) (fun k hk hj hr=>by cases hr) (fun k id hk hj hr=>by cases hr)
    ·refine vcR [] (lkL [(10,[3,4,7])]) (fun _=>[]) (fun (Q:AEx->St R.σ->Prop)=>Q AEx.normal (St.mk [(3,ref 3 0),(4,ref 4 0),(7,int i64 (↑(List.getD l k 0):Int))] [cells false 27 (ad p v (AV.mp 1)),AObj.map es,cells false 2 (nth [int i64 s.rule,ah s.atoms]),cells false 1 fun (x:Nat)=>ref 0 0,cells false 1 fun (x:Nat)=>int u64 (↑S:Int)] g)) (?_)
     show Wp _ _ _ 5 _ _ _ _ _
     obtain⟨a,ha⟩:∃a,l.getD k 0=a:=⟨_,rfl⟩
     have ha24:a<24:=by rw[<-ha];exact hin k hk
     have hm:(!(ofH p.rules.l a).any (aZ v S))=true:=by rw[<-ha,hns' k hk];rfl
     rw[ha]
     refine vcR [] (lkL [(11,[3,4])]) (lkL [(11,[(3,ROrc.kcall (AV.bool (List.any (ofH p.rules.l (↑a:Int)) (aZ v S)))),(5,ROrc.pcall (tup 0 (nth [])))])]) (fun Q=>(fun (u1:List AObj)=>1<=1/\1<=1/\(true=true/\Does Tryd.prog R 115 [ref 0 0,int i64 (↑a:Int),int u64 (↑S:Int)] u1 g (ret (AV.bool (List.any (ofH p.rules.l (↑a:Int)) (aZ v S)))) u1 g)/\(∀(hp:List AObj) (g:R.σ),true=true/\Does Tryd.prog R 140 [AV.bool !List.any (ofH p.rules.l (↑a:Int)) (aZ v S)] hp g (ret (tup 0 (nth []))) hp g)/\Q AEx.normal (St.mk [(3,ref 3 0),(4,ref 4 0)] u1 g)) ([cells false 27 (ad p v (AV.mp 1)),AObj.map es,cells false 2 (nth [int i64 s.rule,ah s.atoms]),cells false 1 fun x=>ref 0 0,cells false 1 fun x=>int u64 (↑S:Int)])) ⟨omg,omg,⟨rfl,(doT (T:=LT) [0,1] 5 (fun R _ g=>jM R (p) (v) (es) (S) (a) omg omg omg omg omg g))⟩,(fun _ _=>⟨rfl,(dQ _ _ omg _ _)⟩),?_⟩
     refine(eB rfl (a8 trivial rfl rfl))
    ·show Wp _ _ _ 2 _ _ _ _ _
     refine cm (gp 5 omg [3,4] (by exact⟨show 3<5 by omega,show 4<5 by omega,fun j _=>aV _ _ 3 _,fun j hj=>(match j with|0=>trivial|1=>trivial|_+2=>trivial),fun _ _=>show 0<5 by omega,fun _ _=>trivial,trivial⟩)) ?_
     refine vcR [] (lkL [(12,[3,72])]) (lkL [(12,[(1,ROrc.call (fn 105 0 (nth []) 1 (nth [ref (List.length [cells false 27 (ad p v (AV.mp 1)),AObj.map es,cells false 2 (nth [int i64 s.rule,ah s.atoms]),cells false 1 fun (x:Nat)=>ref 0 0,cells false 1 fun (x:Nat)=>int u64 (↑S:Int)]) 0])) ([cells false 27 (ad p v (AV.mp 1)),AObj.map es,cells false 2 (nth [int i64 s.rule,ah s.atoms]),cells false 1 fun (x:Nat)=>ref 0 0,cells false 1 fun (x:Nat)=>int u64 (↑S:Int)]++[cells false 1 fun (x:Nat)=>int u64 (↑S:Int)]) g)])]) (fun Q=>(fun (u1:List AObj)=>1<=1/\(true=true/\Does Tryd.prog R 77 [int u64 (↑S:Int)] [cells false 27 (ad p v (AV.mp 1)),AObj.map es,cells false 2 (nth [int i64 s.rule,ah s.atoms]),cells false 1 fun x=>ref 0 0,cells false 1 fun x=>int u64 (↑S:Int)] g (ret (fn 105 0 (nth []) 1 (nth [ref 5 0]))) u1 g)/\WpC Tryd.prog R 79 2 139 [1,1,1,1,1,1,0] Q [Kont.blk 4] (St.mk [(3,ref 3 0),(72,fn 105 0 (nth []) 1 (nth [ref 5 0]))] u1 g)) ([cells false 27 (ad p v (AV.mp 1)),AObj.map es,cells false 2 (nth [int i64 s.rule,ah s.atoms]),cells false 1 fun x=>ref 0 0,cells false 1 fun x=>int u64 (↑S:Int),cells false 1 fun x=>int u64 (↑S:Int)])) ⟨omg,⟨rfl,(cQ _ _ _ _)⟩,?_⟩
     refine iw 72 [73] 5 krf rfl rfl rfl hseq (fun _=>rfl) krf (fun _=>⟨trivial,trivial⟩)
      (fun _=>none) (fun _=>rfl)
      (fun k=>[.cells false 27 (ad p (fun b=>if b∈l.take k then 1 else v b) (.mp 1)),.map es,.cells false 2 (nth [.int .i64 s.rule,ah s.atoms]),.cells false 1 (fun _=>.ref 0 0),.cells false 1 (fun _=>.int .u64 S)])
      (fun _=>g) (fx rfl rfl) (fun _=>rfl) (by exact⟨omg,omg,omg,omg,omg,trivial⟩) (by exact⟨fun j _=>aV _ _ 3 _,trivial,fun j hj=>(match j with|0=>trivial|1=>trivial|_+2=>trivial),fun _ _=>show 0<5 by omega,fun _ _=>trivial,trivial⟩) (by exact⟨fun _ _=>trivial,trivial⟩) [3] (by exact⟨show 3<5 by omega,trivial⟩) (fun k l' hk hjk=>?_) (fun _=>?_) (fun k hk hj hr=>by cases hr) (fun k id hk hj hr=>by cases hr)
     ·refine vcR [] (lkL [(13,[3,8])]) (fun _=>[]) (fun (Q:AEx->St R.σ->Prop)=>Q AEx.normal (St.mk [(3,ref 3 0),(8,int i64 (↑(List.getD l k 0):Int))] [cells false 27 (ad p (fun (b:Nat)=>if b∈List.take k l then 1 else v b) (AV.mp 1)),AObj.map es,cells false 2 (nth [int i64 s.rule,ah s.atoms]),cells false 1 fun (x:Nat)=>ref 0 0,cells false 1 fun (x:Nat)=>int u64 (↑S:Int)] g)) (?_)
      show Wp _ _ _ 5 _ _ _ _ _
      obtain⟨a,ha⟩:∃a,l.getD k 0=a:=⟨_,rfl⟩
      have ha24:a<24:=by rw[<-ha];exact hin k hk
      rw[ha]
      have ho:aj (ad p (fun b=>if b∈l.take k then 1 else v b) (.mp 1)) (a+2) 1 (fun _=>.int .i64 1)=ad p (fun b=>if b∈l.take (k+1) then 1 else v b) (.mp 1):=by
       funext j
       rw[lp rfl ha24 (fun _=>.int .i64 1) rfl]
       congr 1
       funext b
       unfold cy
       have e:l[k]=a:=by rw[<-ha,List.getD_eq_getElem?_getD,List.getElem?_eq_getElem hk];rfl
       have hmem:b∈l.take (k+1)↔b∈l.take k∨b=a:=by
        rw[List.take_add_one,List.mem_append,List.getElem?_eq_getElem hk,e]
        simp
       by_cases h1:b=a
       ·rw[if_pos h1,if_pos (hmem.2 (.inr h1))]
       ·rw[if_neg h1]
        by_cases h2:b∈l.take k
        ·exact(if_pos h2).trans (if_pos (hmem.2 (.inl h2))).symm
        ·exact(if_neg h2).trans (if_neg (fun h=>(hmem.1 h).elim h2 h1)).symm
      refine vcR [] (lkL []) (fun _=>[]) (fun Q=>1<=1/\(0<=(↑a:Int)/\(↑a:Int)<(↑24:Int))/\a+2+1<=27/\Q AEx.normal (St.mk [] [cells false 27 (aj (ad p (fun (b:Nat)=>if b∈List.take k l then 1 else v b) (AV.mp 1)) (a+2) 1 fun x=>int i64 1),AObj.map es,cells false 2 (nth [int i64 s.rule,ah s.atoms]),cells false 1 fun x=>ref 0 0,cells false 1 fun x=>int u64 (↑S:Int)] g)) ⟨omg,omg,omg,?_⟩
      refine(eB rfl (toL (h2:=⟨(Ap (fun j hj=>?_)),rfl,Ah,Ah,Ah,trivial⟩)))
      rw[ho]
     ·have he:(fun b=>if b∈l.take l.length then(1:Int) else v b)=bW v S:=by
       funext b
       unfold bW
       rw[List.take_length,<-hle]
       by_cases hb:S.testBit b=true
       ·rw[if_pos hb,if_pos (Tb.mem_memN.2 ⟨f7 h2 hb,hb⟩)]
       ·rw[if_neg hb,if_neg (fun h=>hb (Tb.mem_memN.1 h).2)]
      rw[he]
      refine(av (bZ 2 _ _ rfl trivial omg trivial ⟨(fun _ _=>(by first|exact trivial|apply aV)),trivial⟩ krf rfl rfl) (Af _))
 ·have hf:dF p v s=false:=by
   unfold dF db
   rw[decide_eq_false omg]
   rfl
  rw[hf]
  have hm:decide ((s.atoms.l.length:Int) > 0)=false:=decide_eq_false h0
  refine spW (nt:=79) (rs:=[]) (k0:=2) ?_
  refine vcR [] (lkL [(0,[2,3]),(1,[2,3])]) (lkL [(1,[(5,ROrc.cpan (ifc 145 (agg 0 (nth []))) [cells false 27 (ad p v (AV.mp 1)),AObj.map es,cells false 2 (nth [int i64 s.rule,ah s.atoms]),cells false 1 fun (a:Nat)=>ref 0 0] g)])]) (fun Q=>(fun (u1:List AObj)=>2<=2/\(true=true/\Does Tryd.prog R 140 [AV.bool (decide ((↑(List.length s.atoms.l):Int) > 0))] u1 g (Oc.pan (ifc 145 (agg 0 (nth [])))) u1 g)/\Q (AEx.pan (ifc 145 (agg 0 (nth [])))) (St.mk [(2,ref 2 0),(3,ref 3 0)] u1 g)) ([cells false 27 (ad p v (AV.mp 1)),AObj.map es,cells false 2 (nth [int i64 s.rule,ah s.atoms]),cells false 1 fun a=>ref 0 0])) ⟨omg,⟨rfl,(iC _ _ omg _ _)⟩,?_⟩
  refine(jy (P:=Tryd.prog) (rs:=[]) 2 omg trivial ⟨(fun _ _=>(by first|exact trivial|apply aV)),trivial⟩ krf rfl (Af _))
def bu (l:List Rule):List Int:=l.foldl (fun ks r=>if r.head∈ks then ks else ks++[r.head]) []
theorem ls (l:List Rule)(r:Rule):bu (l++[r])=if r.head∈bu l then bu l else bu l++[r.head]:=by
 unfold bu
 rw[List.foldl_append]
 rfl
theorem nC (l:List Rule)(r:Rule)(a:Int):ofH (l++[r]) a=if r.head=a then ofH l a++[r] else ofH l a:=by
 unfold ofH
 rw[List.filter_append]
 by_cases h:r.head=a
 ·rw[if_pos h];simp[h]
 ·rw[if_neg h];simp[h]
theorem jO {l:List Rule}{a:Int}:a∈bu l↔∃r,r∈l/\r.head=a:=by
 have key:∀n,n<=l.length->(a∈bu (l.take n)↔∃r,r∈l.take n/\r.head=a):=fun n=>by
  induction n with
  |zero=>intro _;simp[bu]
  |succ n ih=>
   intro hn
   have ih:=ih omg
   rw[List.take_add_one,List.getElem?_eq_getElem omg]
   show a∈bu (l.take n++[l[n]])↔∃r,r∈l.take n++[l[n]]/\r.head=a
   rw[ls]
   have e:(∃r,r∈l.take n++[l[n]]/\r.head=a)↔(∃r,r∈l.take n/\r.head=a)∨l[n].head=a:=by
    constructor
    ·rintro ⟨r,hr,h⟩
     rcases List.mem_append.1 hr with hr|hr
     ·exact .inl ⟨r,hr,h⟩
     ·have:r=l[n]:=by simpa using hr
      subst this
      exact .inr h
    ·rintro (⟨r,hr,h⟩|h)
     ·exact⟨r,List.mem_append.2 (.inl hr),h⟩
     ·exact⟨l[n],List.mem_append.2 (.inr (by simp)),h⟩
   rw[e,<-ih]
   by_cases hk:l[n].head∈bu (l.take n)
   ·rw[if_pos hk]
    exact⟨.inl,fun h=>h.elim id (fun h=>h▸hk)⟩
   ·rw[if_neg hk,List.mem_append]
    simp[eq_comm]
 have:=key l.length (Nat.le_refl _)
 rwa [List.take_length] at this
theorem wS (l:List Rule):(bu l).Nodup:=by
 have key:∀n,n<=l.length->(bu (l.take n)).Nodup:=fun n=>by
  induction n with
  |zero=>intro _;simp[bu]
  |succ n ih=>
   intro hn
   rw[List.take_add_one,List.getElem?_eq_getElem omg]
   show(bu (l.take n++[l[n]])).Nodup
   rw[ls]
   by_cases hk:l[n].head∈bu (l.take n)
   ·rw[if_pos hk];exact ih omg
   ·rw[if_neg hk,List.nodup_append]
    refine⟨ih omg,by simp,fun x hx y hy=>?_⟩
    have:y=l[n].head:=by simpa using hy
    subst this
    exact fun e=>hk (e▸hx)
 have:=key l.length (Nat.le_refl _)
 rwa [List.take_length] at this
theorem wT {l:List Int}(hn:l.Nodup){i j:Nat}(hi:i<l.length)(hj:j<l.length)(e:l[i]=l[j]):i=j:=by
 rw[List.Nodup,List.pairwise_iff_getElem] at hn
 rcases Nat.lt_trichotomy i j with h|h|h
 ·exact absurd e (hn i j hi hj h)
 ·exact h
 ·exact absurd e.symm (hn j i hj hi h)
theorem lu {l:List Rule}{a:Int}:ofH l a=[]↔a∉bu l:=by
 unfold ofH
 rw[List.filter_eq_nil_iff,jO]
 constructor
 ·rintro h ⟨r,hr,e⟩
  exact h r hr (by simp[e])
 ·intro h r hr
  simp only[beq_iff_eq]
  exact fun e=>h ⟨r,hr,e⟩
def bE (f:Nat->AObj)(r:List AObj):List AObj:=f 0::f 1::f 2::f 3::f 4::f 5::f 6::f 7::f 8::f 9::f 10::f 11::f 12::f 13::f 14::f 15::f 16::f 17::f 18::f 19::f 20::f 21::f 22::f 23::r
theorem lv {f:Nat->AObj}{r:List AObj}{j:Nat}(hj:j<24):ag (bE f r) j=f j:=by
 have h:j=0∨j=1∨j=2∨j=3∨j=4∨j=5∨j=6∨j=7∨j=8∨j=9∨j=10∨j=11∨j=12∨j=13∨j=14∨j=15∨j=16∨j=17∨j=18∨j=19∨j=20∨j=21∨j=22∨j=23:=by omega
 rcases h with rfl|rfl|rfl|rfl|rfl|rfl|rfl|rfl|rfl|rfl|rfl|rfl|rfl|rfl|rfl|rfl|rfl|rfl|rfl|rfl|rfl|rfl|rfl|rfl <;> rfl
theorem wU {f g:Nat->AObj}{r:List AObj}{j:Nat}{o:AObj}(hj:j<24)(h:∀m,m<24->m≠j->g m=f m)(ho:g j=o):aF (bE f r) j o=bE g r:=by
 subst ho
 have h':j=0∨j=1∨j=2∨j=3∨j=4∨j=5∨j=6∨j=7∨j=8∨j=9∨j=10∨j=11∨j=12∨j=13∨j=14∨j=15∨j=16∨j=17∨j=18∨j=19∨j=20∨j=21∨j=22∨j=23:=by omega
 unfold bE
 rcases h' with rfl|rfl|rfl|rfl|rfl|rfl|rfl|rfl|rfl|rfl|rfl|rfl|rfl|rfl|rfl|rfl|rfl|rfl|rfl|rfl|rfl|rfl|rfl|rfl
 ·rw[h 1 dcd dcd,h 2 dcd dcd,h 3 dcd dcd,h 4 dcd dcd,h 5 dcd dcd,h 6 dcd dcd,h 7 dcd dcd,h 8 dcd dcd,h 9 dcd dcd,h 10 dcd dcd,h 11 dcd dcd,h 12 dcd dcd,h 13 dcd dcd,h 14 dcd dcd,h 15 dcd dcd,h 16 dcd dcd,h 17 dcd dcd,h 18 dcd dcd,h 19 dcd dcd,h 20 dcd dcd,h 21 dcd dcd,h 22 dcd dcd,h 23 dcd dcd];rfl
 ·rw[h 0 dcd dcd,h 2 dcd dcd,h 3 dcd dcd,h 4 dcd dcd,h 5 dcd dcd,h 6 dcd dcd,h 7 dcd dcd,h 8 dcd dcd,h 9 dcd dcd,h 10 dcd dcd,h 11 dcd dcd,h 12 dcd dcd,h 13 dcd dcd,h 14 dcd dcd,h 15 dcd dcd,h 16 dcd dcd,h 17 dcd dcd,h 18 dcd dcd,h 19 dcd dcd,h 20 dcd dcd,h 21 dcd dcd,h 22 dcd dcd,h 23 dcd dcd];rfl
 ·rw[h 0 dcd dcd,h 1 dcd dcd,h 3 dcd dcd,h 4 dcd dcd,h 5 dcd dcd,h 6 dcd dcd,h 7 dcd dcd,h 8 dcd dcd,h 9 dcd dcd,h 10 dcd dcd,h 11 dcd dcd,h 12 dcd dcd,h 13 dcd dcd,h 14 dcd dcd,h 15 dcd dcd,h 16 dcd dcd,h 17 dcd dcd,h 18 dcd dcd,h 19 dcd dcd,h 20 dcd dcd,h 21 dcd dcd,h 22 dcd dcd,h 23 dcd dcd];rfl
 ·rw[h 0 dcd dcd,h 1 dcd dcd,h 2 dcd dcd,h 4 dcd dcd,h 5 dcd dcd,h 6 dcd dcd,h 7 dcd dcd,h 8 dcd dcd,h 9 dcd dcd,h 10 dcd dcd,h 11 dcd dcd,h 12 dcd dcd,h 13 dcd dcd,h 14 dcd dcd,h 15 dcd dcd,h 16 dcd dcd,h 17 dcd dcd,h 18 dcd dcd,h 19 dcd dcd,h 20 dcd dcd,h 21 dcd dcd,h 22 dcd dcd,h 23 dcd dcd];rfl
 ·rw[h 0 dcd dcd,h 1 dcd dcd,h 2 dcd dcd,h 3 dcd dcd,h 5 dcd dcd,h 6 dcd dcd,h 7 dcd dcd,h 8 dcd dcd,h 9 dcd dcd,h 10 dcd dcd,h 11 dcd dcd,h 12 dcd dcd,h 13 dcd dcd,h 14 dcd dcd,h 15 dcd dcd,h 16 dcd dcd,h 17 dcd dcd,h 18 dcd dcd,h 19 dcd dcd,h 20 dcd dcd,h 21 dcd dcd,h 22 dcd dcd,h 23 dcd dcd];rfl
 ·rw[h 0 dcd dcd,h 1 dcd dcd,h 2 dcd dcd,h 3 dcd dcd,h 4 dcd dcd,h 6 dcd dcd,h 7 dcd dcd,h 8 dcd dcd,h 9 dcd dcd,h 10 dcd dcd,h 11 dcd dcd,h 12 dcd dcd,h 13 dcd dcd,h 14 dcd dcd,h 15 dcd dcd,h 16 dcd dcd,h 17 dcd dcd,h 18 dcd dcd,h 19 dcd dcd,h 20 dcd dcd,h 21 dcd dcd,h 22 dcd dcd,h 23 dcd dcd];rfl
 ·rw[h 0 dcd dcd,h 1 dcd dcd,h 2 dcd dcd,h 3 dcd dcd,h 4 dcd dcd,h 5 dcd dcd,h 7 dcd dcd,h 8 dcd dcd,h 9 dcd dcd,h 10 dcd dcd,h 11 dcd dcd,h 12 dcd dcd,h 13 dcd dcd,h 14 dcd dcd,h 15 dcd dcd,h 16 dcd dcd,h 17 dcd dcd,h 18 dcd dcd,h 19 dcd dcd,h 20 dcd dcd,h 21 dcd dcd,h 22 dcd dcd,h 23 dcd dcd];rfl
 ·rw[h 0 dcd dcd,h 1 dcd dcd,h 2 dcd dcd,h 3 dcd dcd,h 4 dcd dcd,h 5 dcd dcd,h 6 dcd dcd,h 8 dcd dcd,h 9 dcd dcd,h 10 dcd dcd,h 11 dcd dcd,h 12 dcd dcd,h 13 dcd dcd,h 14 dcd dcd,h 15 dcd dcd,h 16 dcd dcd,h 17 dcd dcd,h 18 dcd dcd,h 19 dcd dcd,h 20 dcd dcd,h 21 dcd dcd,h 22 dcd dcd,h 23 dcd dcd];rfl
 ·rw[h 0 dcd dcd,h 1 dcd dcd,h 2 dcd dcd,h 3 dcd dcd,h 4 dcd dcd,h 5 dcd dcd,h 6 dcd dcd,h 7 dcd dcd,h 9 dcd dcd,h 10 dcd dcd,h 11 dcd dcd,h 12 dcd dcd,h 13 dcd dcd,h 14 dcd dcd,h 15 dcd dcd,h 16 dcd dcd,h 17 dcd dcd,h 18 dcd dcd,h 19 dcd dcd,h 20 dcd dcd,h 21 dcd dcd,h 22 dcd dcd,h 23 dcd dcd];rfl
 ·rw[h 0 dcd dcd,h 1 dcd dcd,h 2 dcd dcd,h 3 dcd dcd,h 4 dcd dcd,h 5 dcd dcd,h 6 dcd dcd,h 7 dcd dcd,h 8 dcd dcd,h 10 dcd dcd,h 11 dcd dcd,h 12 dcd dcd,h 13 dcd dcd,h 14 dcd dcd,h 15 dcd dcd,h 16 dcd dcd,h 17 dcd dcd,h 18 dcd dcd,h 19 dcd dcd,h 20 dcd dcd,h 21 dcd dcd,h 22 dcd dcd,h 23 dcd dcd];rfl
 ·rw[h 0 dcd dcd,h 1 dcd dcd,h 2 dcd dcd,h 3 dcd dcd,h 4 dcd dcd,h 5 dcd dcd,h 6 dcd dcd,h 7 dcd dcd,h 8 dcd dcd,h 9 dcd dcd,h 11 dcd dcd,h 12 dcd dcd,h 13 dcd dcd,h 14 dcd dcd,h 15 dcd dcd,h 16 dcd dcd,h 17 dcd dcd,h 18 dcd dcd,h 19 dcd dcd,h 20 dcd dcd,h 21 dcd dcd,h 22 dcd dcd,h 23 dcd dcd];rfl
 ·rw[h 0 dcd dcd,h 1 dcd dcd,h 2 dcd dcd,h 3 dcd dcd,h 4 dcd dcd,h 5 dcd dcd,h 6 dcd dcd,h 7 dcd dcd,h 8 dcd dcd,h 9 dcd dcd,h 10 dcd dcd,h 12 dcd dcd,h 13 dcd dcd,h 14 dcd dcd,h 15 dcd dcd,h 16 dcd dcd,h 17 dcd dcd,h 18 dcd dcd,h 19 dcd dcd,h 20 dcd dcd,h 21 dcd dcd,h 22 dcd dcd,h 23 dcd dcd];rfl
 ·rw[h 0 dcd dcd,h 1 dcd dcd,h 2 dcd dcd,h 3 dcd dcd,h 4 dcd dcd,h 5 dcd dcd,h 6 dcd dcd,h 7 dcd dcd,h 8 dcd dcd,h 9 dcd dcd,h 10 dcd dcd,h 11 dcd dcd,h 13 dcd dcd,h 14 dcd dcd,h 15 dcd dcd,h 16 dcd dcd,h 17 dcd dcd,h 18 dcd dcd,h 19 dcd dcd,h 20 dcd dcd,h 21 dcd dcd,h 22 dcd dcd,h 23 dcd dcd];rfl
 ·rw[h 0 dcd dcd,h 1 dcd dcd,h 2 dcd dcd,h 3 dcd dcd,h 4 dcd dcd,h 5 dcd dcd,h 6 dcd dcd,h 7 dcd dcd,h 8 dcd dcd,h 9 dcd dcd,h 10 dcd dcd,h 11 dcd dcd,h 12 dcd dcd,h 14 dcd dcd,h 15 dcd dcd,h 16 dcd dcd,h 17 dcd dcd,h 18 dcd dcd,h 19 dcd dcd,h 20 dcd dcd,h 21 dcd dcd,h 22 dcd dcd,h 23 dcd dcd];rfl
 ·rw[h 0 dcd dcd,h 1 dcd dcd,h 2 dcd dcd,h 3 dcd dcd,h 4 dcd dcd,h 5 dcd dcd,h 6 dcd dcd,h 7 dcd dcd,h 8 dcd dcd,h 9 dcd dcd,h 10 dcd dcd,h 11 dcd dcd,h 12 dcd dcd,h 13 dcd dcd,h 15 dcd dcd,h 16 dcd dcd,h 17 dcd dcd,h 18 dcd dcd,h 19 dcd dcd,h 20 dcd dcd,h 21 dcd dcd,h 22 dcd dcd,h 23 dcd dcd];rfl
 ·rw[h 0 dcd dcd,h 1 dcd dcd,h 2 dcd dcd,h 3 dcd dcd,h 4 dcd dcd,h 5 dcd dcd,h 6 dcd dcd,h 7 dcd dcd,h 8 dcd dcd,h 9 dcd dcd,h 10 dcd dcd,h 11 dcd dcd,h 12 dcd dcd,h 13 dcd dcd,h 14 dcd dcd,h 16 dcd dcd,h 17 dcd dcd,h 18 dcd dcd,h 19 dcd dcd,h 20 dcd dcd,h 21 dcd dcd,h 22 dcd dcd,h 23 dcd dcd];rfl
 ·rw[h 0 dcd dcd,h 1 dcd dcd,h 2 dcd dcd,h 3 dcd dcd,h 4 dcd dcd,h 5 dcd dcd,h 6 dcd dcd,h 7 dcd dcd,h 8 dcd dcd,h 9 dcd dcd,h 10 dcd dcd,h 11 dcd dcd,h 12 dcd dcd,h 13 dcd dcd,h 14 dcd dcd,h 15 dcd dcd,h 17 dcd dcd,h 18 dcd dcd,h 19 dcd dcd,h 20 dcd dcd,h 21 dcd dcd,h 22 dcd dcd,h 23 dcd dcd];rfl
 ·rw[h 0 dcd dcd,h 1 dcd dcd,h 2 dcd dcd,h 3 dcd dcd,h 4 dcd dcd,h 5 dcd dcd,h 6 dcd dcd,h 7 dcd dcd,h 8 dcd dcd,h 9 dcd dcd,h 10 dcd dcd,h 11 dcd dcd,h 12 dcd dcd,h 13 dcd dcd,h 14 dcd dcd,h 15 dcd dcd,h 16 dcd dcd,h 18 dcd dcd,h 19 dcd dcd,h 20 dcd dcd,h 21 dcd dcd,h 22 dcd dcd,h 23 dcd dcd];rfl
 ·rw[h 0 dcd dcd,h 1 dcd dcd,h 2 dcd dcd,h 3 dcd dcd,h 4 dcd dcd,h 5 dcd dcd,h 6 dcd dcd,h 7 dcd dcd,h 8 dcd dcd,h 9 dcd dcd,h 10 dcd dcd,h 11 dcd dcd,h 12 dcd dcd,h 13 dcd dcd,h 14 dcd dcd,h 15 dcd dcd,h 16 dcd dcd,h 17 dcd dcd,h 19 dcd dcd,h 20 dcd dcd,h 21 dcd dcd,h 22 dcd dcd,h 23 dcd dcd];rfl
 ·rw[h 0 dcd dcd,h 1 dcd dcd,h 2 dcd dcd,h 3 dcd dcd,h 4 dcd dcd,h 5 dcd dcd,h 6 dcd dcd,h 7 dcd dcd,h 8 dcd dcd,h 9 dcd dcd,h 10 dcd dcd,h 11 dcd dcd,h 12 dcd dcd,h 13 dcd dcd,h 14 dcd dcd,h 15 dcd dcd,h 16 dcd dcd,h 17 dcd dcd,h 18 dcd dcd,h 20 dcd dcd,h 21 dcd dcd,h 22 dcd dcd,h 23 dcd dcd];rfl
 ·rw[h 0 dcd dcd,h 1 dcd dcd,h 2 dcd dcd,h 3 dcd dcd,h 4 dcd dcd,h 5 dcd dcd,h 6 dcd dcd,h 7 dcd dcd,h 8 dcd dcd,h 9 dcd dcd,h 10 dcd dcd,h 11 dcd dcd,h 12 dcd dcd,h 13 dcd dcd,h 14 dcd dcd,h 15 dcd dcd,h 16 dcd dcd,h 17 dcd dcd,h 18 dcd dcd,h 19 dcd dcd,h 21 dcd dcd,h 22 dcd dcd,h 23 dcd dcd];rfl
 ·rw[h 0 dcd dcd,h 1 dcd dcd,h 2 dcd dcd,h 3 dcd dcd,h 4 dcd dcd,h 5 dcd dcd,h 6 dcd dcd,h 7 dcd dcd,h 8 dcd dcd,h 9 dcd dcd,h 10 dcd dcd,h 11 dcd dcd,h 12 dcd dcd,h 13 dcd dcd,h 14 dcd dcd,h 15 dcd dcd,h 16 dcd dcd,h 17 dcd dcd,h 18 dcd dcd,h 19 dcd dcd,h 20 dcd dcd,h 22 dcd dcd,h 23 dcd dcd];rfl
 ·rw[h 0 dcd dcd,h 1 dcd dcd,h 2 dcd dcd,h 3 dcd dcd,h 4 dcd dcd,h 5 dcd dcd,h 6 dcd dcd,h 7 dcd dcd,h 8 dcd dcd,h 9 dcd dcd,h 10 dcd dcd,h 11 dcd dcd,h 12 dcd dcd,h 13 dcd dcd,h 14 dcd dcd,h 15 dcd dcd,h 16 dcd dcd,h 17 dcd dcd,h 18 dcd dcd,h 19 dcd dcd,h 20 dcd dcd,h 21 dcd dcd,h 23 dcd dcd];rfl
 ·rw[h 0 dcd dcd,h 1 dcd dcd,h 2 dcd dcd,h 3 dcd dcd,h 4 dcd dcd,h 5 dcd dcd,h 6 dcd dcd,h 7 dcd dcd,h 8 dcd dcd,h 9 dcd dcd,h 10 dcd dcd,h 11 dcd dcd,h 12 dcd dcd,h 13 dcd dcd,h 14 dcd dcd,h 15 dcd dcd,h 16 dcd dcd,h 17 dcd dcd,h 18 dcd dcd,h 19 dcd dcd,h 20 dcd dcd,h 21 dcd dcd,h 22 dcd dcd];rfl
def e8 (a:Nat):List Nat:=[0,1,2,(bif Nat.beq 0 a then 29 else 3),(bif Nat.beq 1 a then 29 else 4),(bif Nat.beq 2 a then 29 else 5),(bif Nat.beq 3 a then 29 else 6),(bif Nat.beq 4 a then 29 else 7),(bif Nat.beq 5 a then 29 else 8),(bif Nat.beq 6 a then 29 else 9),(bif Nat.beq 7 a then 29 else 10),(bif Nat.beq 8 a then 29 else 11),(bif Nat.beq 9 a then 29 else 12),(bif Nat.beq 10 a then 29 else 13),(bif Nat.beq 11 a then 29 else 14),(bif Nat.beq 12 a then 29 else 15),(bif Nat.beq 13 a then 29 else 16),(bif Nat.beq 14 a then 29 else 17),(bif Nat.beq 15 a then 29 else 18),(bif Nat.beq 16 a then 29 else 19),(bif Nat.beq 17 a then 29 else 20),(bif Nat.beq 18 a then 29 else 21),(bif Nat.beq 19 a then 29 else 22),(bif Nat.beq 20 a then 29 else 23),(bif Nat.beq 21 a then 29 else 24),(bif Nat.beq 22 a then 29 else 25),(bif Nat.beq 23 a then 29 else 26)]
theorem nE {a:Nat}(ha:a<24):bA (e8 a) 30=true/\cH (e8 a)=true/\∀b,b<24->ar (e8 a) 30 (3+b)=(bif Nat.beq b a then 29 else b+3):=by
 have h:(List.range 24).all (fun a=>bA (e8 a) 30&&(cH (e8 a)&&(List.range 24).all (fun b=>ar (e8 a) 30 (3+b)==(bif Nat.beq b a then 29 else b+3))))=true:=by decide +kernel
 have h:=(List.all_eq_true.1 h) a (List.mem_range.2 ha)
 simp only[Bool.and_eq_true] at h
 exact⟨h.1,h.2.1,fun b hb=>by simpa using (List.all_eq_true.1 h.2.2) b (List.mem_range.2 hb)⟩
theorem wV {f:Nat->Nat}{hp:List AObj}{a:Nat}{g:Nat->AObj}{x0 x1 x2:AObj}(h:∀j,j<24->LeO (ag hp (bif Nat.beq j a then 29 else j+3)) (bV f (g j)))(h0:LeO (ag hp 0) (bV f x0))(h1:LeO (ag hp 1) (bV f x1))(h2:LeO (ag hp 2) (bV f x2)):cX f hp (e8 a) (x0::x1::x2::bE g []):=
 ⟨h0,h1,h2,h 0 dcd,h 1 dcd,h 2 dcd,h 3 dcd,h 4 dcd,h 5 dcd,h 6 dcd,h 7 dcd,h 8 dcd,h 9 dcd,h 10 dcd,h 11 dcd,h 12 dcd,h 13 dcd,h 14 dcd,h 15 dcd,h 16 dcd,h 17 dcd,h 18 dcd,h 19 dcd,h 20 dcd,h 21 dcd,h 22 dcd,h 23 dcd,trivial⟩
def esO (l:List Rule):List (Value × AV):=(bu l).map (fun b=>(.int .i64 b,.ow true (3+b.toNat) (ofH l b).length 2))
def esF (l:List Rule):List (Value × AV):=(bu l).map (fun b=>(.int .i64 b,ae ⟨ofH l b,.opn⟩))
def es1 (l:List Rule)(h:Int):List (Value × AV):=(bu l).map (fun b=>(.int .i64 b,if b=h then .ow true 29 (ofH l b).length 2 else .ow true (3+b.toNat) (ofH l b).length 2))
def ba (l:List Rule):Nat->AV:=fun c=>bB (l.getD (c/2) default) (c%2)
def inH (l:List Rule)(j:Nat):AObj:=.cells false ((ofH l j).length*2) (ba (ofH l j))
theorem nG {l:List Rule}(hr:∀r,r∈l->aI r):HeadsOk (esF l) l:=by
 have hk:∀b,b∈bu l->0<=b/\b<24:=fun b hb=>by
  obtain⟨r,h1,h2⟩:=jO.1 hb
  have:=(hr r h1).2
  omega
 refine⟨fun e he=>?_,fun a ha=>⟨?_,fun e he hk'=>?_⟩,fun a ha e he hk'=>?_⟩
 ·obtain⟨b,hb,rfl⟩:=List.mem_map.1 he
  have:=hk b hb
  exact⟨b.toNat,by show Value.int .i64 b=_;congr 1;omega,omg⟩
 ·have hb:a∈bu l:=by
   by_cases h:a∈bu l
   ·exact h
   ·exact absurd (lu.2 h) ha
  exact⟨_,List.mem_map.2 ⟨a,hb,rfl⟩,rfl⟩
 ·obtain⟨b,hb,rfl⟩:=List.mem_map.1 he
  have e:b=a:=by
   have:Value.int .i64 b=.int .i64 a:=hk'
   simpa using this
  subst e
  rfl
 ·obtain⟨b,hb,rfl⟩:=List.mem_map.1 he
  have e:b=a:=by
   have:Value.int .i64 b=.int .i64 a:=hk'
   simpa using this
  subst e
  exact(lu.1 ha) hb
theorem wW {l:List Rule}{r:Rule}:MapPut (esO l) (es1 (l++[r]) r.head) (.int .i64 r.head) (.ow true 29 (ofH (l++[r]) r.head).length 2):=by
 have hkey:∀(b a:Int),(Value.int .i64 b=.int .i64 a)↔b=a:=fun b a=>by simp
 have hval:∀b,b≠r.head->ofH (l++[r]) b=ofH l b:=fun b hb=>by rw[nC,if_neg (fun e=>hb e.symm)]
 have hin:(∃e∈esO l,e.1=Value.int .i64 r.head)↔r.head∈bu l:=by
  constructor
  ·rintro ⟨e,he,h⟩
   obtain⟨b,hb,rfl⟩:=List.mem_map.1 he
   rw[<-(hkey _ _).1 h];exact hb
  ·exact fun h=>⟨_,List.mem_map.2 ⟨_,h,rfl⟩,rfl⟩
 refine⟨fun h=>?_,fun h=>?_,fun i j k v v' hi hj=>?_⟩
 ·have hn:r.head∉bu l:=fun hc=>by
   obtain⟨e,he,h2⟩:=hin.2 hc
   exact h e he h2
  unfold es1 esO
  rw[ls,if_neg hn,List.map_append]
  congr 1
  ·refine List.map_congr_left (fun b hb=>?_)
   have hne:b≠r.head:=fun e=>hn (e▸hb)
   rw[if_neg hne,hval b hne]
  ·show [(Value.int .i64 r.head,if r.head=r.head then AV.ow true 29 (ofH (l++[r]) r.head).length 2 else _)]=_
   rw[if_pos rfl]
 ·have hy:=hin.1 h
  have e:bu (l++[r])=bu l:=by rw[ls,if_pos hy]
  unfold es1 esO
  rw[e]
  refine⟨by rw[List.length_map,List.length_map],fun i k v hi=>?_⟩
  rw[List.getElem?_map] at hi ⊢
  cases hx:(bu l)[i]? with
  |none=>rw[hx] at hi;cases hi
  |some b=>
   rw[hx] at hi
   cases hi
   by_cases hb:b=r.head
   ·subst hb
    exact .inl ⟨rfl,if_pos rfl,_,rfl⟩
   ·refine .inr ⟨fun e=>hb ((hkey _ _).1 e),?_⟩
    rw[if_neg hb,hval b hb]
    rfl
 ·unfold esO at hi hj
  rw[List.getElem?_map] at hi hj
  cases hx:(bu l)[i]? with
  |none=>rw[hx] at hi;cases hi
  |some b=>
   cases hy:(bu l)[j]? with
   |none=>rw[hy] at hj;cases hj
   |some c=>
    rw[hx] at hi
    rw[hy] at hj
    cases hi
    have e:c=b:=by
     have:=congrArg (fun x:Option (Value × AV)=>x.map Prod.fst) hj
     simpa using this
    subst e
    have h1:=(List.getElem?_eq_some_iff.1 hx)
    have h2:=(List.getElem?_eq_some_iff.1 hy)
    obtain⟨h1,h1'⟩:=h1
    obtain⟨h2,h2'⟩:=h2
    exact wT (wS l) h1 h2 (h1'.trans h2'.symm)
theorem wX {l:List Rule}{h:Int}(hk:∀b,b∈bu l->0<=b/\b<24)(hh:0<=h/\h<24):es1 l h=(esO l).map (fun e=>(e.1,aG (ar (e8 h.toNat) 30) e.2)):=by
 unfold es1 esO
 rw[List.map_map]
 refine List.map_congr_left (fun b hb=>?_)
 have h1:=hk b hb
 have h2:=(nE (a:=h.toNat) omg).2.2 b.toNat omg
 show(Value.int .i64 b,_)=(Value.int .i64 b,AV.ow true (ar (e8 h.toNat) 30 (3+b.toNat)) _ 2)
 rw[h2]
 by_cases e:b=h
 ·subst e
  rw[if_pos rfl,show Nat.beq b.toNat b.toNat=true by simp]
  rfl
 ·rw[if_neg e,show Nat.beq b.toNat h.toNat=false from by
   cases hx:Nat.beq b.toNat h.toNat with
   |false=>rfl
   |true=>exact absurd (Nat.eq_of_beq_eq_true hx) omg]
  congr 2
  simp[Nat.add_comm]
theorem rc {f g:Nat->AObj}{r r':List AObj}(h:∀j,j<24->LeO (f j) (g j))(hr:leH r r'):leH (bE f r) (bE g r'):=
 ⟨h 0 dcd,h 1 dcd,h 2 dcd,h 3 dcd,h 4 dcd,h 5 dcd,h 6 dcd,h 7 dcd,h 8 dcd,h 9 dcd,h 10 dcd,h 11 dcd,h 12 dcd,h 13 dcd,h 14 dcd,h 15 dcd,h 16 dcd,h 17 dcd,h 18 dcd,h 19 dcd,h 20 dcd,h 21 dcd,h 22 dcd,h 23 dcd,hr⟩
theorem f9 {R:Res}{k0:Nat}(get:Nat->AV):∀(n:Nat) {s:St R.σ},To R k0 s ⟨s.fr,s.hp++List.replicate n (.cells false 0 get),s.g⟩
 |0,s=>by rw[List.replicate_zero,List.append_nil];exact Ar s
 |n+1,s=>by
  have h:=(pQ (k0:=k0) (s:=s) get).trans (f9 get n)
  rw[List.append_assoc] at h
  exact h
def mkH (p:Prg)(l:List Rule)(r:List AObj):List AObj:=.cells false 2 (nth [.int .i64 p.atoms,ae p.rules])::.mapo (esO l)::.cells false 27 (ad p (fun _=>3) (.mp 1))::bE (inH l) r
theorem wY {p:Prg}{j:Nat}(hj:j<27):nth [.int .i64 p.atoms,ae p.rules,.int .i64 3,.int .i64 3,.int .i64 3,.int .i64 3,.int .i64 3,.int .i64 3,.int .i64 3,.int .i64 3,.int .i64 3,.int .i64 3,.int .i64 3,.int .i64 3,.int .i64 3,.int .i64 3,.int .i64 3,.int .i64 3,.int .i64 3,.int .i64 3,.int .i64 3,.int .i64 3,.int .i64 3,.int .i64 3,.int .i64 3,.int .i64 3,.mp 1] j=ad p (fun _=>3) (.mp 1) j:=by
 have h:j=0∨j=1∨j=2∨j=3∨j=4∨j=5∨j=6∨j=7∨j=8∨j=9∨j=10∨j=11∨j=12∨j=13∨j=14∨j=15∨j=16∨j=17∨j=18∨j=19∨j=20∨j=21∨j=22∨j=23∨j=24∨j=25∨j=26:=by omega
 rcases h with rfl|rfl|rfl|rfl|rfl|rfl|rfl|rfl|rfl|rfl|rfl|rfl|rfl|rfl|rfl|rfl|rfl|rfl|rfl|rfl|rfl|rfl|rfl|rfl|rfl|rfl|rfl <;> rfl
def aO (f:Nat->AObj)(a:Nat):Nat->AObj:=fun j=>bif Nat.beq j a then .dead else f j
def wZ (f:Nat->AObj):List (Nat × AObj):=[(3,f 0),(4,f 1),(5,f 2),(6,f 3),(7,f 4),(8,f 5),(9,f 6),(10,f 7),(11,f 8),(12,f 9),(13,f 10),(14,f 11),(15,f 12),(16,f 13),(17,f 14),(18,f 15),(19,f 16),(20,f 17),(21,f 18),(22,f 19),(23,f 20),(24,f 21),(25,f 22),(26,f 23)]
theorem w9 {f:Nat->AObj}{x0 x1 x2:AObj}{r:List AObj}{a:Nat}(ha:a<24):aF (x0::x1::x2::bE f r) (3+a) .dead=x0::x1::x2::bE (aO f a) r:=by
 rw[show 3+a=a+3 by omega]
 show x0::x1::x2::aF (bE f r) a .dead=_
 rw[wU (g:=aO f a) (o:=.dead) ha (fun m _ hne=>by
  unfold aO
  rw[show Nat.beq m a=false from by
   cases h:Nat.beq m a with
   |false=>rfl
   |true=>exact absurd (Nat.eq_of_beq_eq_true h) hne]
  rfl) (by
  unfold aO
  rw[show Nat.beq a a=true by simp]
  rfl)]
theorem lw {f:Nat->AObj}{x0 x1 x2:AObj}{r:List AObj}{a:Nat}(ha:a<24):ag (x0::x1::x2::bE f r) (3+a)=f a:=by
 rw[show 3+a=a+3 by omega]
 exact lv ha
theorem xa {l:List Rule}{h:Int}(hm:∀e∈esO l,e.1≠.int .i64 h):ofH l h=[]:=by
 rw[lu]
 intro hk
 exact hm _ (List.mem_map.2 ⟨h,hk,rfl⟩) rfl
theorem xb {l:List Rule}{h:Int}{e:Value × AV}(he:e∈esO l)(hk:e.1=.int .i64 h):e.2=.ow true (3+h.toNat) (ofH l h).length 2:=by
 obtain⟨b,hb,rfl⟩:=List.mem_map.1 he
 have e:b=h:=by simpa using hk
 subst e
 rfl
theorem nH {h:Int}(hh:0<=h/\h<24):∃l,Go.keyOf Tryd.prog 3 (.int .i64 h)=some l:=by
 obtain⟨n,rfl⟩:∃n:Nat,h=n:=⟨h.toNat,omg⟩
 exact gG omg
theorem re {l:List Rule}(hr:∀r,r∈l->aI r){e:Value × AV}(he:e∈esO l):∃k,Go.keyOf Tryd.prog 3 e.1=some k:=by
 obtain⟨b,hb,rfl⟩:=List.mem_map.1 he
 obtain⟨r,h1,rfl⟩:=jO.1 hb
 exact nH (hr r h1).2
theorem rf {l:List Rule}{r:Rule}{z:Nat->AV}{c:Nat}(hc:c<(l.length+1)*2):ba (l++[r]) c=aT 2 l.length (fun i j=>ba l (i*2+j)) (fun i j=>aj z 0 2 (nth [.int .i64 r.head,ap r.body]) (0+i*2+j)) c:=by
 unfold aT
 by_cases h:c<l.length*2
 ·rw[if_pos h]
  show _=ba l (c/2*2+c%2)
  rw[show c/2*2+c%2=c by omega]
  unfold ba
  rw[List.getD_eq_getElem?_getD,List.getElem?_append_left omg,<-List.getD_eq_getElem?_getD]
 ·rw[if_neg h]
  show _=aj z 0 2 _ (0+(c-l.length*2)/2*2+(c-l.length*2)%2)
  rw[cY,if_pos omg]
  unfold ba
  rw[show c/2=l.length by omega,List.getD_eq_getElem?_getD,List.getElem?_append_right (Nat.le_refl _),Nat.sub_self]
  show bB r (c%2)=nth _ (0+(c-l.length*2)/2*2+(c-l.length*2)%2-0)
  rw[show 0+(c-l.length*2)/2*2+(c-l.length*2)%2-0=c%2 by omega]
  rfl
theorem lc {f:Nat->Nat}(r:Rule)(j:Nat):aG f (bB r j)=bB r j:=by
 match j with
 |0=>rfl
 |1=>rfl
 |_+2=>rfl
theorem kZ {k:Nat}(r:Rule)(j:Nat):Below k (bB r j):=by
 match j with
 |0=>trivial
 |1=>trivial
 |_+2=>trivial
theorem gA {f:Nat->Nat}{n:Nat}{l:List Rule}:bV f (.cells false n (ba l))=.cells false n (ba l):=by
 show AObj.cells false n (fun j=>aG f (ba l j))=_
 congr 1
 funext j
 exact lc _ _
theorem iy {f:Nat->Nat}{x:Int}{y:KL Rule}:LeO (.cells false 2 (nth [.int .i64 x,ae y])) (bV f (.cells false 2 (nth [.int .i64 x,ae y]))):=
 Ap (fun j hj=>match j,hj with|0,_=>rfl|1,_=>rfl)
theorem rg {P:Program}{R:Res}{o:Oper}{ev:Operand->AV}{hp hp' hp'':List AObj}{g g':R.σ}{v:AV}(h:OpOk P R o ev hp g v hp' g')(e:hp'=hp''):OpOk P R o ev hp g v hp'' g':=e▸h
theorem xd (p:Prg):leH ([AObj.cells false 2 (nth [.int .i64 p.atoms,ae p.rules]),.mapo [],.cells false 27 (nth [.int .i64 p.atoms,ae p.rules,.int .i64 3,.int .i64 3,.int .i64 3,.int .i64 3,.int .i64 3,.int .i64 3,.int .i64 3,.int .i64 3,.int .i64 3,.int .i64 3,.int .i64 3,.int .i64 3,.int .i64 3,.int .i64 3,.int .i64 3,.int .i64 3,.int .i64 3,.int .i64 3,.int .i64 3,.int .i64 3,.int .i64 3,.int .i64 3,.int .i64 3,.int .i64 3,.mp 1])]++List.replicate 24 (.cells false 0 (ba []))) (mkH p [] []):=
 ⟨Ai _,Ai _,Ap (fun j hj=>wY hj),rc (f:=fun _=>.cells false 0 (ba [])) (fun j hj=>Ai _) trivial⟩
theorem xe (R:Res)(p:Prg)(hl:p.rules.l.length<1000000)(hr:∀r,r∈p.rules.l->aI r)(g:R.σ):Does Tryd.prog R 66 [au p] [] g (.ret (.ref 0 0)) [.cells false 27 (ad p (fun _=>3) (.mp 1)),.map (esF p.rules.l)] g:=by
 refine spW (nt:=36) (rs:=[.tmp 2]) (k0:=0) ?_
 refine vcR [] (lkL [(0,[1]),(1,[1,3]),(2,[3,12,13,14])]) (lkL [(1,[(1,ROrc.pcall (jK fun (x:Nat)=>3)),(2,ROrc.new (AV.mp 1) (AObj.mapo []))])]) (fun Q=>(fun (u1:AV)=>(fun (u2:AObj)=>Flw Tryd.prog/\2<=2/\(∀(hp:List AObj) (g:R.σ),true=true/\Does Tryd.prog R 99 [] hp g (ret (jK fun j=>3)) hp g)/\OpOk Tryd.prog R (Oper.mk (some 8) (Op.makeMap 96 none) 96 "table.go:100" #[] none) (evO [Row.mk (some 7) none (jK fun j=>3) false (some []) [],Row.mk (some 6) none (au p) false (some []) [0]] [(1,ref 0 0)] []) [u2] g (AV.mp 1) [u2,AObj.mapo []] g/\2<=2/\WpC Tryd.prog R 36 0 66 [1,1,0,1,0] Q [Kont.blk 0,Kont.seq [1,1,1]] (St.mk [(3,ref 2 0),(12,ae p.rules),(13,int i64 (↑(List.length p.rules.l):Int)),(14,int i64 0)] [u2,AObj.mapo [],cells false 27 (nth [int i64 p.atoms,ae p.rules,u1,u1,u1,u1,u1,u1,u1,u1,u1,u1,u1,u1,u1,u1,u1,u1,u1,u1,u1,u1,u1,u1,u1,u1,AV.mp 1])] g)) (cells false 2 (nth [int i64 p.atoms,ae p.rules]))) (int i64 3)) ⟨krf,omg,(fun _ _=>⟨rfl,(wH _ _ _)⟩),?_,omg,?_⟩
 ·exact vG rfl
 ·refine cm (f9 (ba []) 24) ?_
  refine cm (toL (s':=⟨[(3,.ref 2 0),(12,ae p.rules),(13,.int .i64 p.rules.l.length),(14,.int .i64 0)],mkH p [] [],g⟩) (h2:=xd p)) ?_
  refine(bl krf (fun (i:Nat)=>⟨[(3,ref 2 0),(12,ae p.rules),(13,int i64 (p.rules.l.length:Int)),(14,.int .i64 i)],(mkH p (p.rules.l.take i) []),g⟩) (fun (i:Nat)=>(i<=p.rules.l.length)) (fun (i:Nat)=>(p.rules.l.length-i)) 0 (toL (h1:=⟨Af _,Af _,Af _,(Ag krf),trivial⟩) (h2:=⟨Ah,Ai _,Ah,Ah,Ah,Ah,Ah,Ah,Ah,Ah,Ah,Ah,Ah,Ah,Ah,Ah,Ah,Ah,Ah,Ah,Ah,Ah,Ah,Ah,Ah,Ah,Ah,trivial⟩)) ?_ (fun i hi=>?_))
  ·exact Nat.zero_le _
  ·rcases Nat.lt_or_ge i p.rules.l.length with hi'|hi'
   ·have hq:=(hr _ (fF hi')).2
    have hrl:∀r,r∈(p.rules.l.take i)->aI r:=fun r h=>hr r (List.mem_of_mem_take h)
    have hcast:(((p.rules.l.getD i default).head.toNat:Nat):Int)=(p.rules.l.getD i default).head:=by omega
    have hln:(ofH (p.rules.l.take i) (p.rules.l.getD i default).head).length<=p.rules.l.length:=Nat.le_trans (List.length_filter_le _ _) (by rw[List.length_take];omega)
    have hsn:ofH ((p.rules.l.take i)++[(p.rules.l.getD i default)]) (p.rules.l.getD i default).head=ofH (p.rules.l.take i) (p.rules.l.getD i default).head++[(p.rules.l.getD i default)]:=by rw[nC,if_pos rfl]
    have htk:p.rules.l.take (i+1)=(p.rules.l.take i)++[(p.rules.l.getD i default)]:=by
     rw[List.take_add_one,List.getElem?_eq_getElem hi',List.getD_eq_getElem?_getD,List.getElem?_eq_getElem hi']
     rfl
    have hmp:=wW (l:=(p.rules.l.take i)) (r:=(p.rules.l.getD i default))
    rw[hsn,List.length_append,List.length_singleton] at hmp
    refine vcR [] (lkL [(3,[3,12,13,14,15]),(4,[3,5,12,13,14]),(5,[3,12,13,14]),(6,[3,12,13,14])]) (lkL [(4,[(3,ROrc.val (Orc.obj (nth [int i64 (List.getD p.rules.l i default).head,ap (List.getD p.rules.l i default).body])))]),(5,[(12,ROrc.look (ow true (3+Int.toNat (List.getD p.rules.l i default).head) (List.length (ofH (List.take i p.rules.l) (List.getD p.rules.l i default).head)) 2) [1]),(15,ROrc.newS (ow true 29 (List.length (ofH (List.take i p.rules.l) (List.getD p.rules.l i default).head)+1) 2) (wZ (aO (inH (List.take i p.rules.l)) (Int.toNat (List.getD p.rules.l i default).head))) (cells false ((List.length (ofH (List.take i p.rules.l) (List.getD p.rules.l i default).head)+1)*2) (ba (ofH (List.take i p.rules.l) (List.getD p.rules.l i default).head++[List.getD p.rules.l i default])))),(16,ROrc.own any (cells false 2 (nth [int i64 p.atoms,ae p.rules])::AObj.mapo (es1 (List.take i p.rules.l++[List.getD p.rules.l i default]) (List.getD p.rules.l i default).head)::cells false 27 (ad p (fun (x:Nat)=>3) (AV.mp 1))::bE (aO (inH (List.take i p.rules.l)) (Int.toNat (List.getD p.rules.l i default).head)) [cells false 2 (nth [int i64 (List.getD p.rules.l i default).head,ap (List.getD p.rules.l i default).body]),cells false 2 (aj (fun (j:Nat)=>nth [int i64 0,fz Fz.nil 0 0 fun (x x_1:Nat)=>any] (j%2)) 0 2 (nth [int i64 (List.getD p.rules.l i default).head,ap (List.getD p.rules.l i default).body])),cells false ((List.length (ofH (List.take i p.rules.l) (List.getD p.rules.l i default).head)+1)*2) (ba (ofH (List.take i p.rules.l) (List.getD p.rules.l i default).head++[List.getD p.rules.l i default]))]) g)])]) (fun Q=>(fun (u1:Int)=>(fun (u2:List Rule)=>(fun (u3:List AObj)=>(fun (u4:List AObj)=>(fun (u5:List Row)=>(fun (u6:Int)=>(fun (u7:List Row)=>(fun (u8:List AV)=>(fun (u9:List (Nat × AV))=>(fun (u10:Int)=>(fun (u11:AObj)=>(fun (u12:AObj)=>(decide (u10<u6)=true->(0<=u10/\u10<u6)/\2<=2/\2<=2/\(∀(c:Nat),c<2->nth u8 c=aj (nth [int i64 0,fz Fz.nil 0 0 fun x x_1=>any]) 0 2 (List.brecOn (motive:=fun (x:List AV)=>Nat->AV) u8 nth._f) c)/\Flw Tryd.prog/\27<=27/\1<=2/\27<=27/\1<=2/\(∀(hp':List AObj) (g':R.σ),SameO [1] [u11,AObj.mapo (esO u2),u12,inH u2 0,inH u2 1,inH u2 2,inH u2 3,inH u2 4,inH u2 5,inH u2 6,inH u2 7,inH u2 8,inH u2 9,inH u2 10,inH u2 11,inH u2 12,inH u2 13,inH u2 14,inH u2 15,inH u2 16,inH u2 17,inH u2 18,inH u2 19,inH u2 20,inH u2 21,inH u2 22,inH u2 23,cells false 2 (nth u8)] hp'->OpOk Tryd.prog R (Oper.mk (some 30) (Op.lookup 96 (Operand.tmp 27) (Operand.tmp 29) false) 22 "table.go:102" #[Edge.mk 9 Ground.data,Edge.mk 11 Ground.data] none) (evO u5 u9 []) hp' g' (ow true (3+Int.toNat u1) (List.length (ofH u2 u1)) 2) hp' g')/\2<=2/\OpOk Tryd.prog R (Oper.mk (some 33) (Op.call (Call.mk (Callee.builtin Builtin.append) #[Operand.tmp 30,Operand.tmp 32] #[22,22])) 22 "table.go:102" #[Edge.mk 12 Ground.data,Edge.mk 14 Ground.data] none) (evO u7 u9 []) [u11,AObj.mapo (esO u2),u12,inH u2 0,inH u2 1,inH u2 2,inH u2 3,inH u2 4,inH u2 5,inH u2 6,inH u2 7,inH u2 8,inH u2 9,inH u2 10,inH u2 11,inH u2 12,inH u2 13,inH u2 14,inH u2 15,inH u2 16,inH u2 17,inH u2 18,inH u2 19,inH u2 20,inH u2 21,inH u2 22,inH u2 23,cells false 2 (nth u8),cells false 2 (aj (fun (j:Nat)=>nth [int i64 0,fz Fz.nil 0 0 fun x x_1=>any] (j%2)) 0 2 (List.brecOn (motive:=fun (x:List AV)=>Nat->AV) u8 nth._f))] g (ow true 29 (List.length (ofH u2 u1)+1) 2) u3 g/\OpOk Tryd.prog R (Oper.mk none (Op.mapUpdate 96 (Operand.tmp 21) (Operand.tmp 23) (Operand.tmp 33)) 0 "table.go:102" #[Edge.mk 3 Ground.data,Edge.mk 5 Ground.data,Edge.mk 15 Ground.data,Edge.mk 15 Ground.chain,Edge.mk 0 Ground.phase,Edge.mk 1 Ground.phase,Edge.mk 2 Ground.phase,Edge.mk 3 Ground.phase,Edge.mk 4 Ground.phase,Edge.mk 5 Ground.phase,Edge.mk 6 Ground.phase,Edge.mk 7 Ground.phase,Edge.mk 8 Ground.phase,Edge.mk 9 Ground.phase,Edge.mk 10 Ground.phase,Edge.mk 11 Ground.phase,Edge.mk 12 Ground.phase,Edge.mk 13 Ground.phase,Edge.mk 14 Ground.phase,Edge.mk 15 Ground.phase] none) (evO (Row.mk (some 33) none (ow true 29 (List.length (ofH u2 u1)+1) 2) true (some [29,3,4,5,6,7,8,9,10,11,12,13,14,15,16,17,18,19,20,21,22,23,24,25,26]) []::u7) u9 []) u3 g any u4 g/\(-9223372036854775808<=u10+1/\u10+1<=9223372036854775807)/\Q AEx.normal (St.mk [(3,ref 2 0),(12,ae p.rules),(13,int i64 u6),(14,int i64 (u10+1))] u4 g))/\(decide (u10<u6)=false->Q (AEx.exit 0) (St.mk [(3,ref 2 0),(12,ae p.rules),(13,int i64 u6),(14,int i64 u10),(15,AV.bool (decide (u10<u6)))] [u11,AObj.mapo (esO u2),u12,inH u2 0,inH u2 1,inH u2 2,inH u2 3,inH u2 4,inH u2 5,inH u2 6,inH u2 7,inH u2 8,inH u2 9,inH u2 10,inH u2 11,inH u2 12,inH u2 13,inH u2 14,inH u2 15,inH u2 16,inH u2 17,inH u2 18,inH u2 19,inH u2 20,inH u2 21,inH u2 22,inH u2 23] g))) (cells false 27 (ad p (fun (x:Nat)=>3) (AV.mp 1)))) (cells false 2 (nth [int i64 p.atoms,ae p.rules]))) ((↑i:Int))) ([(3,ref 2 0),(5,ref 27 0),(12,ae p.rules),(13,int i64 u6),(14,int i64 (↑i:Int))])) ([int i64 u1,ap (List.getD p.rules.l i default).body])) (Row.mk (some 32) none (sl 28 0 1 1 true 2) true (some [28]) []::Row.mk (some 31) none (bQ (List.getD p.rules.l i default)) false (some []) [27]::Row.mk (some 30) none (ow true (3+Int.toNat u1) (List.length (ofH u2 u1)) 2) false (some []) [1]::u5)) ((↑(List.length p.rules.l):Int))) ([Row.mk (some 29) none (int i64 u1) false (some []) [27],Row.mk (some 28) none (ref 27 0) false (some []) [],Row.mk (some 27) none (AV.mp 1) false (some []) [2],Row.mk (some 26) none (ref 2 26) false (some []) [],Row.mk (some 25) none (ref 2 0) false (some []) [],Row.mk (some 24) none (ref 2 0) false (some []) [],Row.mk (some 23) none (int i64 u1) false (some []) [27],Row.mk (some 22) none (ref 27 0) false (some []) [],Row.mk (some 21) none (AV.mp 1) false (some []) [2],Row.mk (some 20) none (ref 2 26) false (some []) [],Row.mk (some 19) none (ref 2 0) false (some []) [],Row.mk (some 18) none (ref 2 0) false (some []) []])) ([cells false 2 (nth [int i64 p.atoms,ae p.rules]),AObj.mapo (es1 (u2++[List.getD p.rules.l i default]) u1),cells false 27 (ad p (fun (x:Nat)=>3) (AV.mp 1)),aO (inH u2) (Int.toNat u1) 0,aO (inH u2) (Int.toNat u1) 1,aO (inH u2) (Int.toNat u1) 2,aO (inH u2) (Int.toNat u1) 3,aO (inH u2) (Int.toNat u1) 4,aO (inH u2) (Int.toNat u1) 5,aO (inH u2) (Int.toNat u1) 6,aO (inH u2) (Int.toNat u1) 7,aO (inH u2) (Int.toNat u1) 8,aO (inH u2) (Int.toNat u1) 9,aO (inH u2) (Int.toNat u1) 10,aO (inH u2) (Int.toNat u1) 11,aO (inH u2) (Int.toNat u1) 12,aO (inH u2) (Int.toNat u1) 13,aO (inH u2) (Int.toNat u1) 14,aO (inH u2) (Int.toNat u1) 15,aO (inH u2) (Int.toNat u1) 16,aO (inH u2) (Int.toNat u1) 17,aO (inH u2) (Int.toNat u1) 18,aO (inH u2) (Int.toNat u1) 19,aO (inH u2) (Int.toNat u1) 20,aO (inH u2) (Int.toNat u1) 21,aO (inH u2) (Int.toNat u1) 22,aO (inH u2) (Int.toNat u1) 23,cells false 2 (nth [int i64 u1,ap (List.getD p.rules.l i default).body]),cells false 2 (aj (fun (j:Nat)=>nth [int i64 0,fz Fz.nil 0 0 fun x x_1=>any] (j%2)) 0 2 (nth [int i64 u1,ap (List.getD p.rules.l i default).body])),cells false ((List.length (ofH u2 u1)+1)*2) (ba (ofH u2 u1++[List.getD p.rules.l i default]))])) ([cells false 2 (nth [int i64 p.atoms,ae p.rules]),AObj.mapo (esO u2),cells false 27 (ad p (fun (x:Nat)=>3) (AV.mp 1)),aO (inH u2) (Int.toNat u1) 0,aO (inH u2) (Int.toNat u1) 1,aO (inH u2) (Int.toNat u1) 2,aO (inH u2) (Int.toNat u1) 3,aO (inH u2) (Int.toNat u1) 4,aO (inH u2) (Int.toNat u1) 5,aO (inH u2) (Int.toNat u1) 6,aO (inH u2) (Int.toNat u1) 7,aO (inH u2) (Int.toNat u1) 8,aO (inH u2) (Int.toNat u1) 9,aO (inH u2) (Int.toNat u1) 10,aO (inH u2) (Int.toNat u1) 11,aO (inH u2) (Int.toNat u1) 12,aO (inH u2) (Int.toNat u1) 13,aO (inH u2) (Int.toNat u1) 14,aO (inH u2) (Int.toNat u1) 15,aO (inH u2) (Int.toNat u1) 16,aO (inH u2) (Int.toNat u1) 17,aO (inH u2) (Int.toNat u1) 18,aO (inH u2) (Int.toNat u1) 19,aO (inH u2) (Int.toNat u1) 20,aO (inH u2) (Int.toNat u1) 21,aO (inH u2) (Int.toNat u1) 22,aO (inH u2) (Int.toNat u1) 23,cells false 2 (nth [int i64 u1,ap (List.getD p.rules.l i default).body]),cells false 2 (aj (fun (j:Nat)=>nth [int i64 0,fz Fz.nil 0 0 fun x x_1=>any] (j%2)) 0 2 (List.brecOn (motive:=fun (x:List AV)=>Nat->AV) [int i64 u1,ap (List.getD p.rules.l i default).body] nth._f)),cells false ((List.length (ofH u2 u1)+1)*2) (ba (ofH u2 u1++[List.getD p.rules.l i default]))])) (List.take i p.rules.l)) ((List.getD p.rules.l i default).head)) ⟨fun c1=>have c1:(↑i:Int)<(↑(List.length p.rules.l):Int):=(of_decide_eq_true c1);⟨omg,omg,omg,(fun c hc=>match c,hc with|0,_=>krf|1,_=>krf ),krf,omg,omg,omg,omg,?_,omg,?_,?_,omg,?_⟩,fun c1=>have c1:¬(↑i:Int)<(↑(List.length p.rules.l):Int):=(of_decide_eq_false c1);?_⟩
    ·intro hp' g' hh
     have h1:ag hp' 1=.mapo (esO (p.rules.l.take i)):=hh.h 1 (List.Mem.head _)
     exact vH (t:=96) (kt:=3) (vt:=22) (m:=.tmp 27) (x:=.tmp 29) (ob:=1) (es:=esO (p.rules.l.take i)) (kv:=.int .i64 (p.rules.l.getD i default).head) rfl krf (Go.Maps.int_keyed (q:=.i64) krf) rfl rfl h1 (fun FM Z v h=>h) (nH hq) (fun e he=>re hrl he) (fun h=>by rw[xa h];exact Le.nil_ow) (fun e he hk=>xb he hk)
    ·refine vK (t:=22) (es:=2) (b:=32) (n:=(ofH (p.rules.l.take i) (p.rules.l.getD i default).head).length) (m:=1) (get0:=ba (ofH (p.rules.l.take i) (p.rules.l.getD i default).head)) (N0:=(ofH (p.rules.l.take i) (p.rules.l.getD i default).head).length*2) (get':=ba (ofH (p.rules.l.take i) (p.rules.l.getD i default).head++[(p.rules.l.getD i default)])) rfl rfl rfl rfl rfl ?_ krf rfl ⟨dcd,trivial⟩ (Nat.le_refl _) dcd ?_ ?_ (fun c hc=>(rf (r:=(p.rules.l.getD i default)) (z:=fun j=>nth [.int .i64 0,.fz .nil 0 0 fun _ _=>.any] (j%2)) hc).trans krf) ?_
     ·refine(lw (f:=inH (p.rules.l.take i)) (a:=(p.rules.l.getD i default).head.toNat) omg).trans ?_
      unfold inH
      rw[hcast]
     ·rw[show aB=140737488355328 from rfl];omega
     ·rw[show aB=140737488355328 from rfl];omega
     ·exact Eq.trans krf (Eq.trans (congrArg (fun h=>aQ h (.cells false (((ofH (p.rules.l.take i) (p.rules.l.getD i default).head).length+1)*2) (ba (ofH (p.rules.l.take i) (p.rules.l.getD i default).head++[(p.rules.l.getD i default)])))) (w9 (f:=inH (p.rules.l.take i)) (x0:=.cells false 2 (nth [.int .i64 p.atoms,ae p.rules])) (x1:=.mapo (esO (p.rules.l.take i))) (x2:=.cells false 27 (ad p (fun _=>3) (.mp 1))) (r:=[(.cells false 2 (nth [.int .i64 (p.rules.l.getD i default).head,ap (p.rules.l.getD i default).body])),(.cells false 2 (aj (fun j=>nth [.int .i64 0,.fz .nil 0 0 fun _ _=>.any] (j%2)) 0 2 (nth [.int .i64 (p.rules.l.getD i default).head,ap (p.rules.l.getD i default).body])))]) (a:=(p.rules.l.getD i default).head.toNat) omg).symm) krf)
    ·exact rg (vI (t:=96) (kt:=3) (vt:=22) (m:=.tmp 21) (x:=.tmp 23) (y:=.tmp 33) (ob:=1) (es:=esO (p.rules.l.take i)) (es':=es1 ((p.rules.l.take i)++[(p.rules.l.getD i default)]) (p.rules.l.getD i default).head) (kv:=.int .i64 (p.rules.l.getD i default).head) (d:=.ow true 29 ((ofH (p.rules.l.take i) (p.rules.l.getD i default).head).length+1) 2) rfl krf (Go.Maps.int_keyed (q:=.i64) krf) rfl rfl (by exact fun FM Z v h=>h) (by rfl) (nH hq) (fun e he=>re hrl he) hmp) krf
    ·refine aU (i+1) (ej (e8 (p.rules.l.getD i default).head.toNat) 30 rfl (nE omg).1 (nE omg).2.1 rfl rfl ⟨Af _,Af _,Af _,Ag rfl,trivial⟩ (wV (fun j hj=>?_) iy ?_ ?_)) ?_ ?_
     ·by_cases hja:j=(p.rules.l.getD i default).head.toNat
      ·subst hja
       have e1:inH (p.rules.l.take (i+1)) (p.rules.l.getD i default).head.toNat=(.cells false (((ofH (p.rules.l.take i) (p.rules.l.getD i default).head).length+1)*2) (ba (ofH (p.rules.l.take i) (p.rules.l.getD i default).head++[(p.rules.l.getD i default)]))):=by
        unfold inH
        rw[htk,hcast,hsn,List.length_append]
        rfl
       rw[e1,gA,show Nat.beq (p.rules.l.getD i default).head.toNat (p.rules.l.getD i default).head.toNat=true by simp]
       exact Ai _
      ·rw[show Nat.beq j (p.rules.l.getD i default).head.toNat=false from by
        cases h:Nat.beq j (p.rules.l.getD i default).head.toNat with
        |false=>rfl
        |true=>exact absurd (Nat.eq_of_beq_eq_true h) hja]
       have e1:inH (p.rules.l.take (i+1)) j=inH (p.rules.l.take i) j:=by
        unfold inH
        rw[htk,nC,if_neg omg]
       have e2:aO (inH (p.rules.l.take i)) (p.rules.l.getD i default).head.toNat j=inH (p.rules.l.take i) j:=by
        unfold aO
        rw[show Nat.beq j (p.rules.l.getD i default).head.toNat=false from by
         cases h:Nat.beq j (p.rules.l.getD i default).head.toNat with
         |false=>rfl
         |true=>exact absurd (Nat.eq_of_beq_eq_true h) hja]
        rfl
       rw[e1]
       refine(congrArg (fun x=>LeO x _) (Eq.trans (Eq.trans krf (lv (f:=aO (inH (p.rules.l.take i)) (p.rules.l.getD i default).head.toNat) (r:=[(.cells false 2 (nth [.int .i64 (p.rules.l.getD i default).head,ap (p.rules.l.getD i default).body])),(.cells false 2 (aj (fun j=>nth [.int .i64 0,.fz .nil 0 0 fun _ _=>.any] (j%2)) 0 2 (nth [.int .i64 (p.rules.l.getD i default).head,ap (p.rules.l.getD i default).body]))),(.cells false (((ofH (p.rules.l.take i) (p.rules.l.getD i default).head).length+1)*2) (ba (ofH (p.rules.l.take i) (p.rules.l.getD i default).head++[(p.rules.l.getD i default)])))]) hj)) e2)).mpr ?_
       unfold inH
       rw[gA]
       exact Ai _
     ·rw[htk]
      show LeO (.mapo (es1 ((p.rules.l.take i)++[(p.rules.l.getD i default)]) (p.rules.l.getD i default).head)) (.mapo _)
      rw[wX (l:=(p.rules.l.take i)++[(p.rules.l.getD i default)]) (fun b hb=>?_) hq]
      ·exact Ai _
      ·obtain⟨q,q1,q2⟩:=jO.1 hb
       rw[<-htk] at q1
       have:=(hr q (List.mem_of_mem_take q1)).2
       omega
     ·exact Ap (fun j hj=>(cw rfl).symm)
     ·omega
     ·omega
    ·exact absurd hi' omg
   ·have hie:i=p.rules.l.length:=by omega
    subst hie
    rw[List.take_length]
    refine cm (vJ 3 1 (esO p.rules.l) (esF p.rules.l) [3,12,13,14] omg rfl omg (by show 3<=27;omega) ?_ ?_ ?_ ?_ ?_) ?_
    ·intro b hb hlv
     rcases Nat.lt_or_ge b 27 with h|h
     ·obtain⟨a,rfl⟩:∃a,b=3+a:=⟨b-3,omg⟩
      have e:=lw (f:=inH p.rules.l) (x0:=.cells false 2 (nth [.int .i64 p.atoms,ae p.rules])) (x1:=.mapo (esO p.rules.l)) (x2:=.cells false 27 (ad p (fun _=>3) (.mp 1))) (r:=[]) (a:=a) omg
      exact⟨_,_,e,fun j _=>kZ _ _⟩
     ·rw[dy (by show 27<=b;omega)] at hlv
      cases hlv
    ·unfold esO esF
     rw[List.length_map,List.length_map]
    ·intro b kv v' hb
     unfold esF at hb
     rw[List.getElem?_map] at hb
     cases hx:(bu p.rules.l)[b]? with
     |none=>rw[hx] at hb;cases hb
     |some h=>
      rw[hx] at hb
      cases hb
      have hm:=List.mem_of_getElem? hx
      obtain⟨q,q1,q2⟩:=jO.1 hm
      have hq:=(hr q q1).2
      have hne:(ofH p.rules.l h).length≠0:=fun e=>(lu.1 (List.length_eq_zero_iff.1 e)) hm
      have e:=lw (f:=inH p.rules.l) (x0:=.cells false 2 (nth [.int .i64 p.atoms,ae p.rules])) (x1:=.mapo (esO p.rules.l)) (x2:=.cells false 27 (ad p (fun _=>3) (.mp 1))) (r:=[]) (a:=h.toNat) omg
      unfold inH at e
      rw[show((h.toNat:Nat):Int)=h by omega] at e
      refine⟨true,3+h.toNat,(ofH p.rules.l h).length,2,(ofH p.rules.l h).length*2,ba (ofH p.rules.l h),?_,omg,omg,omg,e,Nat.le_refl _,Al rfl (fun i j hi hj=>?_)⟩
      ·unfold esO
       rw[List.getElem?_map,hx]
       rfl
      ·unfold ba
       rw[show(i*2+j)/2=i by omega,show(i*2+j)%2=j by omega]
    ·intro b hb hne
     match b,hb,hne with
     |0,_,_=>exact fun j hj=>(match j,hj with|0,_=>trivial|1,_=>trivial)
     |2,_,_=>exact fun j hj=>aV p _ 1 j
    ·exact⟨(by decide:2<3),trivial,trivial,trivial,trivial⟩
    refine cm (toS (s':=⟨[(3,.ref 0 0),(12,ae p.rules),(13,.int .i64 p.rules.l.length),(14,.int .i64 p.rules.l.length)],[.cells false 27 (ad p (fun _=>3) (.mp 1)),.map (esF p.rules.l)],g⟩) [2,1] 3 (hob:=⟨Ap (fun j hj=>(cw rfl).symm),rfl,trivial⟩)) ?_
    have hb:decide ((p.rules.l.length:Int)<(p.rules.l.length:Int))=false:=decide_eq_false omg
    refine vcR [[1,1,0,1,0,0,1,0,0]] (lkL [(3,[3,12,13,14,15])]) (fun _=>[]) (fun Q=>(fun (u1:Int)=>(fun (u2:St R.σ)=>(decide (u1<u1)=true->WpC Tryd.prog R 36 0 66 [1,1,0,1,0,0,1,0,0] Q [Kont.seq [1,1,0,1,0,0,1,1]] u2)/\(decide (u1<u1)=false->Q (AEx.exit 0) u2)) (St.mk [(3,ref 0 0),(12,ae p.rules),(13,int i64 u1),(14,int i64 u1),(15,AV.bool (decide (u1<u1)))] [cells false 27 (ad p (fun (x:Nat)=>3) (AV.mp 1)),AObj.map (esF p.rules.l)] g)) ((↑(List.length p.rules.l):Int))) ⟨fun hcc=>(nomatch (hb.symm.trans hcc)),fun _=>?_⟩
    refine⟨_,Ar _,vcR [] (lkL [(7,[2])]) (fun _=>[]) (fun (Q:AEx->St R.σ->Prop)=>Q AEx.ret (St.mk [(2,ref 0 0)] [cells false 27 (ad p (fun (x:Nat)=>3) (AV.mp 1)),AObj.map (esF p.rules.l)] g)) (?_)⟩
    refine(av (aS _ _ rfl trivial rfl rfl rfl) (Af _))
end Go.Avm.Pack
namespace Go.Proofs
open Go Go.Shelf
def Tryd.collectL_ren:Ren:=⟨fun|8=>75|11=>104|n=>n,fun|26=>3|28=>117|24=>53|0=>0|33=>112|4=>4|n=>n,fun n=>n⟩
theorem Tryd.collectL:SlLaysZI.n8 Tryd.prog Tryd.collectL_ren where
 mixed:=by kernel_rfl
 f8:=⟨Tryd.f75.name,by kernel_rfl,Tryd.func75.trans (congrArg some (by kernel_rfl))⟩
 f11:=⟨Tryd.f104.name,by kernel_rfl,Tryd.func104.trans (congrArg some (by kernel_rfl))⟩
 t0:=Tryd.underlying0
 a0:=Tryd.isAgg0
 z0:=Tryd.sizeOf0
 v0:=Tryd.zeroValue0
 t24:=Tryd.underlying53
 a24:=Tryd.isAgg53
 z24:=Tryd.sizeOf53
 v24:=Tryd.zeroValue53
 t26:=Tryd.underlying3
 a26:=Tryd.isAgg3
 z26:=Tryd.sizeOf3
 v26:=Tryd.zeroValue3
 t28:=Tryd.underlying117
 a28:=Tryd.isAgg117
 z28:=Tryd.sizeOf117
 v28:=Tryd.zeroValue117
 i26:=by kernel_rfl
end Go.Proofs
namespace Go.Avm.Pack
open Go Go.Avm Go.Proofs Go.RowKit Go.Shelf
attribute [local go_sem] Oper.semAt_some
theorem rh (n s:Nat)(h0:0<s)(h1:s<2^24)(W:World)(FM:Mem)(hFM:∀b o,FM b=some o->W.heap[b]? = some o)(ht:cP gsT FM) :
  CallsIn Fence.wide n Tryd.prog 106 #[.int .u64 s] W fun e W'=>e=.returned (.int .i64 ((gE s:Nat):Int))/\W.grownBy W' none:=by
 have okh:Ok (Res.tab gsT) [] () FM [] W:=⟨⟨hFM,rfl,fun i p h=>(by simp at h),fun i j p q h=>(by simp at h)⟩,ht,fun b h=>h.elim⟩
 refine callsIn_wide.2 (((qZ (Res.tab gsT) s h0 h1 ()).h FM [] W #[.int .u64 s] okh ⟨rfl,fun i hi=>?_⟩).mono ?_)
 ·have:i=0:=by simpa using hi
  subst this
  rfl
 ·rintro e W' ⟨FM',Z',⟨v,he,hv⟩,okh',go⟩
  refine⟨by rw[he,show v=_ from hv],go.ext.os,go.ext.tape,go.ext.output,go.ext.size,fun k hk _=>go.ext.keep k hk (fun ⟨p,hp,_⟩=>by cases hp) (fun h=>h)⟩
theorem ri (s:Nat)(hs:s<2^24)(h0:0<s):bits .and .u64 ((s:Nat):Int) (((s:Nat):Int)-1)=((s&&&(s-1):Nat):Int):=by
 have h:=Tb.u64_cut h0 (bC hs)
 rw[show IntKind.u64.wrap ((s:Int)-1)=(s:Int)-1 from by
  rw[Tb.wrapu]
  have:(s:Int)<2^24:=by exact_mod_cast hs
  omega] at h
 exact h
theorem xf (n:Nat)(hn:1<=n)(l s:Nat)(hs:s<2^24)(A:Addr)(FM:Mem)(ht:cP gsT FM)(J:Nat->World->Prop)
  (hJ:∀k W,J k W->W.cell? A=some (.int .u64 (Tb.cutN s k))/\W.frozen? A=false/\(∀b o,FM b=some o->W.heap[b]? = some o))
  (hJg:∀k W W',J k W->W.grownBy W' none->J k W')
  (hY:∀k W,k<(ai s).length->J k W->YieldAt Fence.wide (n-1) Tryd.prog l #[.int .i64 ((ai s).getD k 0)] W fun e W'=>e=.returned (.bool true)/\W'.cell? A=some (.int .u64 (Tb.cutN s k))/\W'.frozen? A=false/\J (k+1) (W'.setCell A (.int .u64 (Tb.cutN s (k+1)))))
  (W:World) (h0:J 0 W) :
  CallsIn Fence.wide n Tryd.prog 105 #[.func (.yield l) #[] #[],.pointer (some A)] W fun e W'=>(∃v,e=.returned v)/\J (ai s).length W':=by
 refine callsIn_of_wp Tryd.func105 rfl trivial ?_ rfl
 simp only[Tryd.ntmps105,List.size_toArray,List.length_cons,List.length_nil,Nat.reduceAdd,Nat.reduceSub,Array.replicate_succ,Array.replicate_zero,List.push_toArray,List.append_toArray,List.nil_append,List.cons_append]
 gi_wp2
 gi_loopw [] (fun wr=>∃k,k<=(ai s).length/\J k wr) (fun wr=>match wr.cell? A with|some (.int _ v)=>v.toNat|_=>0)
 case atStart=>exact⟨0,Nat.zero_le _,h0⟩
 case round=>
  obtain⟨k,hk,hJk⟩:=hrel
  obtain⟨hc,hf,hFM⟩:=hJ k wr hJk
  have hlt:=Tb.cutN_lt hs k
  rcases Nat.lt_or_ge k (ai s).length with hkl|hkl
  ·obtain⟨m,hm⟩:=Tb.cutN_in hs hkl
   have k1:0<Tb.cutN s k:=by
    rw[hm]
    exact Nat.mul_pos (Nat.pow_pos (by decide)) (by omega)
   have k2:=ld hm hlt
   clear hm
   have hz:¬((Tb.cutN s k:Nat):Int)=0:=by omega
   have htz:=fun m=>rh m (Tb.cutN s k) k1 hlt wr FM hFM ht
   have hYk:=fun W=>hY k W hkl
   obtain⟨x,hx⟩:∃x,(ai s).getD k 0=x:=⟨_,rfl⟩
   rw[hx] at k2
   simp only[hx] at hYk
   simp only[k2] at htz
   gi_wp2
   refine⟨trivial,(htz _).mono ?_⟩
   rintro e w' ⟨rfl,hg⟩
   have hJ':=hJg k wr w' hJk hg
   obtain⟨hc',hf',hFM'⟩:=hJ k w' hJ'
   obtain⟨fn,tmps,assign,body,hy,hR⟩:=hYk w' hJ'
   dsimp only
   gi_wp2
   refine hR.mono ?_
   rintro e W3 ⟨rfl,hc3,hf3,hJ3⟩
   dsimp only
   gi_wp2
   have hb:bits .and .u64 ((Tb.cutN s k:Nat):Int) (((Tb.cutN s k:Nat):Int)-1)=((Tb.cutN s (k+1):Nat):Int):=ri _ hlt k1
   rw[hb]
   refine⟨⟨k+1,hkl,hJ3⟩,?_⟩
   rw[(hJ _ _ hJ3).1,hc]
   show((Tb.cutN s (k+1):Nat):Int).toNat<((Tb.cutN s k:Nat):Int).toNat
   have:Tb.cutN s (k+1)<=Tb.cutN s k-1:=Nat.and_le_right
   omega
  ·have hz:((Tb.cutN s k:Nat):Int)=0:=by rw[show k=(ai s).length by omega,Tb.cutN_end hs];rfl
   have hkk:k=(ai s).length:=by omega
   subst hkk
   gi_wp2
   go_end0
   exact⟨⟨_,rfl⟩,hJk⟩
def cS (s:Nat):List Int:=(ai s).map fun (n:Nat)=>(n:Int)
def dq (w:World)(A:Addr)(s:Nat):Nat->World
 |0=>w
 |k+1=>(dq w A s k).setCell A (.int .u64 (Tb.cutN s (k+1)))
theorem eq (w:World)(A:Addr)(s:Nat):∀k,(dq w A s k).heap.size=w.heap.size
 |0=>rfl
 |k+1=>by
  show((dq w A s k).heap.modify _ _).size=_
  rw[Array.size_modify,eq w A s k]
theorem nI (w:World)(A:Addr)(s:Nat){b:Nat}(hb:b≠A.block):∀k,(dq w A s k).heap[b]? = w.heap[b]?
 |0=>rfl
 |k+1=>(RowKit.Below.heap_setCell _ _ _ b hb).trans (nI w A s hb k)
theorem lx {w:World}{A:Addr}{s:Nat}(h:w.cell? A=some (.int .u64 s)):∀k,(dq w A s k).cell? A=some (.int .u64 (Tb.cutN s k))
 |0=>h
 |k+1=>World.cell?_setCell_same' _ _ _ (by rw[lx h k];rfl)
theorem xg (w:World)(A:Addr)(v:Value):(w.setCell A v).frozen? A=w.frozen? A:=by
 unfold World.frozen?
 show(match (w.heap.modify A.block _)[A.block]? with|some (.cells _ _ (lo,hi))=>_|_=>_)=_
 rw[Array.getElem?_modify]
 simp only[if_true]
 cases h:w.heap[A.block]? with
 |none=>rfl
 |some o=>cases o <;> rfl
theorem nJ {w:World}{A:Addr}{s:Nat}(h:w.frozen? A=false):∀k,(dq w A s k).frozen? A=false
 |0=>h
 |k+1=>(xg _ _ _).trans (nJ h k)
theorem xh (w:World)(A:Addr)(v:Value):w.grownBy (w.setCell A v) (some A.block):=
 ⟨rfl,rfl,rfl,by show _<=(w.heap.modify _ _).size;rw[Array.size_modify];exact Nat.le_refl _,fun k _ hk=>RowKit.Below.heap_setCell _ _ _ k (fun e=>hk (by rw[e]))⟩
theorem np {B:Nat}{w w':World}(h:RowKit.Below B w w')(A:Addr)(v:Value):RowKit.Below B (w.setCell A v) (w'.setCell A v):=by
 refine⟨h.os,h.tape,h.output,?_,fun k hk=>?_⟩
 ·show(w.heap.modify _ _).size<=(w'.heap.modify _ _).size
  rw[Array.size_modify,Array.size_modify];exact h.size
 ·show(w'.heap.modify _ _)[k]? = (w.heap.modify _ _)[k]?
  rw[Array.getElem?_modify,Array.getElem?_modify,h.block k hk]
theorem xi {s k:Nat}(hk:k<(ai s).length):(cS s).take k++[(((ai s).getD k 0:Nat):Int)]=(cS s).take (k+1):=by
 unfold cS
 rw[List.take_add_one,List.getElem?_map,List.getElem?_eq_getElem hk,List.getD_eq_getElem?_getD,List.getElem?_eq_getElem hk]
 rfl
theorem ly (s:Nat):(cS s).length=(ai s).length:=by unfold cS;simp
abbrev ZC:Ren:=Tryd.collectL_ren
theorem gH (s:Nat):(ai s).length<=24:=by
 unfold ai Tb.memN
 exact Nat.le_trans (List.length_filter_le _ _) (by simp)
theorem xj (n:Nat)(hn:2<=n)(s:Nat)(hs:s<2^24)(A:Addr)(FM:Mem)(ht:cP gsT FM)(w:World)(hFM:∀b o,FM b=some o->w.heap[b]? = some o)(hFA:FM A.block=none)(hc:w.cell? A=some (.int .u64 s))(hf:w.frozen? A=false) :
  CallsIn Fence.wide n Tryd.prog 104 #[.slice none 0 0,.func (.func 105) #[] #[.pointer (some A)]] w fun e w'=>∃v,e=.returned v/\w'.ownsRow w.heap.size 3 1 v (cS s).length ((cS s).map encZ)/\(v=.slice none 0 0↔cS s=[])/\RowKit.Below w.heap.size (dq w A s (ai s).length) w':=by
 have L:=Tryd.collectL
 have hAb:A.block<w.heap.size:=by
  rcases Nat.lt_or_ge A.block w.heap.size with h|h
  ·exact h
  ·rw[World.cell?,Array.getElem?_eq_none h] at hc;cases hc
 refine callsIn_of_wp_marks Tryd.func104 rfl trivial ?_ rfl
 simp only[Tryd.ntmps104,List.size_toArray,List.length_cons,List.length_nil,Nat.reduceAdd,Nat.reduceSub,Array.replicate_succ,Array.replicate_zero,List.push_toArray,List.append_toArray,List.nil_append,List.cons_append]
 gi_wp2
 refine wpIn_rangeFunc ?_
 intro fn hfn
 have hne:ZC.t 24≠ZC.t 26:=by decide
 obtain⟨W0,hW0⟩:∃W0,w.alloc (.cells #[.slice none 0 0] 53)=W0:=⟨_,rfl⟩
 rw[show Fence.wide.round=none from rfl,hW0]
 obtain⟨W1,hW1⟩:∃W1,(W0.alloc (.deferred (some []))).alloc (.loop (AnyZI.apRec ZC fn (.func (.func 105) #[] #[.pointer (some A)]) w.heap.size W0.heap.size .ready none))=W1:=⟨_,rfl⟩
 have hs0:W0.heap.size=w.heap.size+1:=by rw[<-hW0];simp
 have hs1:W1.heap.size=W0.heap.size+2:=by rw[<-hW1];simp
 have hb0:RowKit.Below w.heap.size w W0:=by rw[<-hW0];exact(RowKit.Below.refl _ w).alloc (Nat.le_refl _) _
 have hsA:w.heap.size≠A.block:=by omega
 have hb1:RowKit.Below w.heap.size w W1:=by rw[<-hW1];exact(hb0.alloc hb0.size _).alloc (by have:=hb0.size;simp;omega) _
 have old:∀k,k<W0.heap.size->W1.heap[k]? = W0.heap[k]?:= fun k hk=>by
  rw[<-hW1];exact(RowKit.Below.heap_alloc _ _ k (by simp;omega)).trans (RowKit.Below.heap_alloc _ _ k hk)
 have hbox:W1.heap[w.heap.size]? = some (.cells #[.slice none 0 0] (ZC.t 24) (0,0)):=(old _ (by omega)).trans (by rw[<-hW0];exact World.alloc_heap_new w _)
 have hD:W1.heap[W0.heap.size]? = some (.deferred (some [])):=by rw[<-hW1];exact(RowKit.Below.heap_alloc _ _ _ (by simp)).trans (World.alloc_heap_new W0 _)
 have hL:W1.heap[W0.heap.size+1]? = some (.loop (AnyZI.apRec ZC fn (.func (.func 105) #[] #[.pointer (some A)]) w.heap.size W0.heap.size .ready none)):=by
  rw[<-hW1]
  have:=World.alloc_heap_new (W0.alloc (.deferred (some []))) (.loop (AnyZI.apRec ZC fn (.func (.func 105) #[] #[.pointer (some A)]) w.heap.size W0.heap.size .ready none))
  rwa [World.size_alloc] at this
 let J:Nat->World->Prop:=fun k W=>AnyZI.ApAt ZC (dq w A s k) fn (.func (.func 105) #[] #[.pointer (some A)]) w.heap.size (W0.heap.size+1) W0.heap.size ((cS s).take k) W
 have hJ:∀k W,J k W->W.cell? A=some (.int .u64 (Tb.cutN s k))/\W.frozen? A=false/\(∀b o,FM b=some o->W.heap[b]? = some o):=fun k W h=>by
  have hb:=h.below
  rw[eq] at hb
  refine⟨(hb.cell hAb).trans (lx hc k),(hb.frozen hAb).trans (nJ hf k),fun b o hbo=>?_⟩
  have h1:=hFM b o hbo
  rw[hb.block b (Array.getElem?_eq_some_iff.1 h1).1,nI w A s (fun e=>by rw[e,hFA] at hbo;cases hbo),h1]
 have hJ0:J 0 W1:=⟨⟨_,hbox,⟨by simp,.inl ⟨rfl,by simp⟩⟩,by simp⟩,hL,hD,hb1⟩
 refine⟨W0.heap.size+1,[{ target:=.collected W0.heap.size,args:=#[] }],W1,{ target:=.fn (.func 105) #[.pointer (some A)],args:=#[.func (.yield (W0.heap.size+1)) #[] #[]] },W1,105,
  #[.func (.yield (W0.heap.size+1)) #[] #[],.pointer (some A)],W1,?_,?_,?_,?_,fun _=>(by omega),(xf (n-1) (by omega) (W0.heap.size+1) s hs A FM ht J hJ (fun k W W' h hg=>?_) (fun k W hk h=>?_) W1 hJ0).mono ?_⟩
 ·rw[<-hW1];exact run_enterLoop_outer _ _ _ _ _
 ·simp[resolve,go_sem]
 ·intro f' hf';trivial
 ·simp[invoke,go_sem]
 ·exact AnyZI.ap_abides ZC _ _ _ _ _ _ _ (Nat.le_refl _) _ _ _ none h hg (fun r e=>by cases e)
 ·have hlen:((cS s).take k).length<24:=by
   have:=gH s
   rw[List.length_take,ly];omega
  obtain⟨fn',tmps,assign,body,hy,hR⟩:=AnyZI.apYield (ρ:=ZC) { L with } Fence.wide (n-1-1) (dq w A s k) fn hfn (.func (.func 105) #[] #[.pointer (some A)]) w.heap.size (W0.heap.size+1) W0.heap.size (by omega) (by omega) (by omega) (by rw[eq];exact Nat.le_refl _) (by rw[eq];omega) 24 (by decide) (by decide) ((cS s).take k) (((ai s).getD k 0:Nat):Int) W h hlen
  refine⟨fn',tmps,assign,body,hy,hR.mono ?_⟩
  rintro e W' ⟨he,h',hk'⟩
  obtain⟨v,hv,hrow,hnil⟩:=h'.box
  have hb':=h'.below
  rw[eq] at hb'
  refine⟨he,(hb'.cell hAb).trans (lx hc k),(hb'.frozen hAb).trans (nJ hf k),?_⟩
  have hgs:=xh W' A (.int .u64 (Tb.cutN s (k+1)))
  rw[xi hk] at hrow hnil
  refine⟨⟨v,(RowKit.Below.heap_setCell _ _ _ _ hsA).trans hv,?_,hnil⟩,(RowKit.Below.heap_setCell _ _ _ _ (by omega)).trans h'.L,(RowKit.Below.heap_setCell _ _ _ _ (by omega)).trans h'.K,?_⟩
  ·rw[eq] at hrow ⊢
   refine hrow.kept hgs ?_
   rcases hrow.2 with⟨rfl,_⟩|⟨g,cap,cur,rfl,hg,_⟩
   ·exact .inl rfl
   ·refine .inr (fun e=>?_)
    have:g=A.block:=by simpa[Value.ownBlock] using e
    omega
  ·rw[eq]
   exact np hb' A _
 ·rintro e W2 ⟨⟨v0,rfl⟩,h2⟩
  have h2:J (ai s).length W2:=h2
  obtain⟨v,hv,hrow,hnil⟩:=h2.box
  rw[show(cS s).take (ai s).length=cS s by rw[<-ly,List.take_length]] at hrow hnil
  rw[eq] at hrow
  have hb2:=h2.below
  rw[eq] at hb2
  have hend:=run_endLoop (P:=Tryd.prog) h2.L (by simp[AnyZI.apRec])
  obtain⟨W3,hW3⟩:∃W3,W2.putObj (W0.heap.size+1) (.loop { AnyZI.apRec ZC fn (.func (.func 105) #[] #[.pointer (some A)]) w.heap.size W0.heap.size .ready none with state:=.exhausted })=W3:=⟨_,rfl⟩
  rw[hW3] at hend
  have hg3:W2.grownBy W3 (some (W0.heap.size+1)):=by rw[<-hW3];exact grownBy_putObj_a _ _ _
  have hv3:W3.heap[w.heap.size]? = some (.cells #[v] (ZC.t 24) (0,0)):=by rw[<-hW3];exact(World.putObj_heap_other (by omega)).trans hv
  have hD3:W3.heap[W0.heap.size]? = some (.deferred (some [])):=by rw[<-hW3];exact(World.putObj_heap_other (by omega)).trans h2.K
  have hrow3:=hrow.kept hg3 (ownsRow_ne_a hrow h2.L (fun cur e=>by cases e))
  have hb3:RowKit.Below w.heap.size (dq w A s (ai s).length) W3:=hb2.grown hg3 (by have:=hb2.size;rw[eq] at this;exact this) (fun k e=>by cases e;omega)
  obtain⟨hc3,hf3⟩:=cell_of_box_a hv3
  clear hW3
  refine⟨none,W3,hend,?_⟩
  gi_wp2
  rw[<-hs0]
  refine⟨by simp,.inl ⟨_,_,rfl,run_takeDeferred hD3,?_⟩⟩
  exact⟨_,results_tmp rfl _ _ _,v,rfl,hrow3.kept (grownBy_putObj_a _ _ _) (ownsRow_ne_a hrow3 hD3 (fun cur e=>by cases e)),hnil,hb3.grown (grownBy_putObj_a _ _ _) (by have:=hb3.size;rw[eq] at this;exact this) (fun k e=>by cases e;omega)⟩
theorem xk (s:Nat)(hs:s<2^24)(A:Addr)(FM:Mem)(ht:cP gsT FM)(w:World)(hFM:∀b o,FM b=some o->w.heap[b]? = some o)(hFA:FM A.block=none)(hc:w.cell? A=some (.int .u64 s))(hf:w.frozen? A=false) :
  Calls Tryd.prog 75 #[.func (.func 105) #[] #[.pointer (some A)]] w fun e w'=>∃v,e=.returned v/\w'.ownsRow w.heap.size 3 1 v (cS s).length ((cS s).map encZ)/\(v=.slice none 0 0↔cS s=[])/\RowKit.Below w.heap.size (dq w A s (ai s).length) w':=by
 refine(callsIn_wide (n:=4)).1 ?_
 have hap:=xj 3 (by omega) s hs A FM ht w hFM hFA hc hf
 refine callsIn_of_wp Tryd.func75 rfl trivial ?_ rfl
 simp only[Tryd.ntmps75,List.size_toArray,List.length_cons,List.length_nil,Nat.reduceAdd,Nat.reduceSub,Array.replicate_succ,Array.replicate_zero,List.push_toArray,List.append_toArray,List.nil_append,List.cons_append]
 gi_wp2
 refine⟨trivial,hap.mono ?_⟩
 rintro e w' ⟨v,rfl,hrow,hnil,hb⟩
 dsimp only
 gi_wp2
 go_ret
 exact⟨v,rfl,hrow,hnil,hb⟩
theorem rj {w:World}{A:Addr}{s:Nat}{cs:Array Value}{e:TypeId}{fz:Nat × Nat}(h:w.heap[A.block]? = some (.cells cs e fz)):∀k,∃cs',(dq w A s k).heap[A.block]? = some (.cells cs' e fz)/\cs'.size=cs.size
 |0=>⟨cs,h,rfl⟩
 |k+1=>by
  obtain⟨cs',h1,h2⟩:=rj (s:=s) h k
  refine⟨if A.spot.isSome then cs' else cs'.setIfInBounds A.off (.int .u64 (Tb.cutN s (k+1))),?_,?_⟩
  ·show((dq w A s k).heap.modify A.block _)[A.block]? = _
   rw[Array.getElem?_modify,h1]
   simp only[if_true]
   rfl
  ·split
   ·exact h2
   ·rw[Array.size_setIfInBounds,h2]
theorem rl (w:World)(A:Addr)(s:Nat):∀k,(dq w A s k).os=w.os/\(dq w A s k).tape=w.tape/\(dq w A s k).output=w.output
 |0=>⟨rfl,rfl,rfl⟩
 |k+1=>rl w A s k
def nK (s:Nat):Nat->AV:=fun j=>.int .i64 (((ai s).getD j 0:Nat):Int)
theorem lz (R:Res)[Tab LT R](s:Nat)(hs:s<2^24)(g:R.σ):Does Tryd.prog R 75 [.fn 105 0 (nth []) 1 (nth [.ref 0 0])] [.cells false 1 (fun _=>.int .u64 s)] g
  (.ret (.ow true 1 (ai s).length 1)) [.cells false 1 (fun _=>.any),.cells false ((ai s).length*1) (nK s)] g:=by
 refine⟨fun FM Z w vs okh hvs=>?_⟩
 have hT:cP gsT FM:=Tab.h (T:=LT) okh.j
 obtain⟨hsz,hden⟩:=hvs
 have h0:=hden 0 (by simp)
 obtain⟨xs,ys,hu,hxs,hys,_,hdb⟩:=h0
 obtain⟨p,hp,hy0⟩:=hdb 0 (by omega)
 have hxs0:xs=#[]:=Array.size_eq_zero_iff.1 hxs
 subst hxs0
 have hysE:ys=#[.pointer (some ⟨p.1,p.2.1,none⟩)]:=by
  refine Array.ext (by simp[hys]) (fun i h1 h2=>?_)
  have:i=0:=by simp at h2;omega
  subst this
  rw[Array.getD_eq_getD_getElem?,Array.getElem?_eq_getElem h1] at hy0
  simpa using hy0
 have hvsE:vs=#[.func (.func 105) #[] #[.pointer (some ⟨p.1,p.2.1,none⟩)]]:=by
  have hsz1:vs.size=1:=by simpa using hsz
  refine Array.ext (by simp[hsz1]) (fun i h1 h2=>?_)
  have:i=0:=by simp at h2;omega
  subst this
  rw[Array.getD_eq_getD_getElem?,Array.getElem?_eq_getElem h1] at hu
  rw[hysE] at hu
  simpa using hu
 obtain⟨A,hA⟩:∃A:Addr,A=⟨p.1,p.2.1,none⟩:=⟨_,rfl⟩
 have hAb:A.block=p.1:=by rw[hA]
 obtain⟨k1,k2⟩:=okh.rel.obj 0 p hp
 obtain⟨cs,e,b1,b2,b3,b4,_,b6⟩:=k2 (by omega)
 obtain⟨x,c1,c2,c3⟩:=b4 0 (by omega)
 have hx:x=.int .u64 s:=c3
 subst hx
 have hcell:w.cell? A=some (.int .u64 s):=by rw[hA];simp only[World.cell?,b1];simpa using c1
 have hfroz:w.frozen? A=false:=by rw[hA];simp[World.frozen?,b1]
 have hreal:p.2.1<=p.2.2:=by omega
 have hAlt:A.block<w.heap.size:=by rw[hAb];exact k1 hreal
 have hin:InB Z A.block:=⟨p,bm hp,hAb.symm,hreal⟩
 have hFA:FM A.block=none:=by rw[hAb];exact b6 rfl
 rw[hvsE,<-hA]
 refine(xk s hs A FM hT w okh.rel.fm hFA hcell hfroz).mono ?_
 rintro en w' ⟨v,rfl,hrow,hnil,hb⟩
 obtain⟨o1,o2,o3⟩:=rl w A s (ai s).length
 have hsize:w.heap.size<=w'.heap.size:=by have:=hb.size;rwa [eq] at this
 have hheap:∀b,b<w.heap.size->b≠A.block->w'.heap[b]? = w.heap[b]?:= fun b h1 h2=>(hb.block b h1).trans (nI w A s h2 _)
 obtain⟨cs',s1,s2⟩:=rj (s:=s) (A:=A) (by rw[hAb];exact b1) (ai s).length
 have hA':w'.heap[A.block]? = some (.cells cs' e (0,0)):=(hb.block _ hAlt).trans s1
 have hcell':w'.cell? A=some (.int .u64 (Tb.cutN s (ai s).length)):=(hb.cell hAlt).trans (lx hcell _)
 -- the new place
 have hZl:Z.length=1:=okh.rel.len
 have hFMs:∀b o,FM b=some o->w'.heap[b]? = some o:=fun b o h=>by
  have h1:=okh.rel.fm b o h
  exact(hheap b (Array.getElem?_eq_some_iff.1 h1).1 (fun e=>by rw[e,hFA] at h;cases h)).trans h1
 obtain⟨q,q1,q2,q3,q4⟩:∃q:Nat × Nat × Nat,(∀Z':Plc,Z'[1]? = some q->Den FM Z' (.ow true 1 (ai s).length 1) v)/\(q.2.1<=q.2.2->q.1<w'.heap.size)/\(q.2.1<=q.2.2->w.heap.size<=q.1)/\(∀Z',cr FM Z' q w' (.cells false ((ai s).length*1) (nK s))):=by
  rw[ly] at hrow
  rcases hrow.2 with⟨rfl,hn0⟩|⟨g',cap,cur,rfl,hg',hh,h5,_,h6,h7⟩
  ·refine⟨dS,fun Z' _=>⟨fun _=>⟨none,rfl,fun _=>rfl⟩,fun h=>absurd hn0 h⟩,fun h=>absurd h (by simp[dS]),fun h=>absurd h (by simp[dS]),fun Z' hlt=>?_⟩
   rw[hn0] at hlt
   exact absurd hlt (by omega)
  ·have hfmg:FM g'=none:=by
    cases hx:FM g' with
    |none=>rfl
    |some o=>have:=(Array.getElem?_eq_some_iff.1 (okh.rel.fm g' o hx)).1;omega
   refine⟨(g',0,cur.size),fun Z' hp'=>⟨fun hz=>?_,fun _=>⟨_,cap,hp',by rfl,h5,by simp[h6]⟩⟩,fun _=>(Array.getElem?_eq_some_iff.1 hh).1,fun _=>hg',fun Z' hlt=>⟨cur,_,hh,by show 0+_<=_;rw[h6];omega,rfl,fun j hj=>?_,fun h=>(by cases h),fun _=>hfmg⟩⟩
   ·exfalso
    have:=hnil.2 (List.length_eq_zero_iff.1 (by rw[ly];exact hz))
    cases this
   ·have hj':j<(ai s).length:=by omega
    refine⟨.int .i64 (((ai s).getD j 0:Nat):Int),?_,rfl,rfl⟩
    have e1:cur[j]? = ((cS s).map encZ)[j]?:= by
     rw[<-h7,List.getElem?_take,if_pos (by omega),Array.getElem?_toList]
    show cur[0+j]? = _
    rw[Nat.zero_add,e1]
    unfold cS
    rw[List.map_map,List.getElem?_map,List.getElem?_eq_getElem hj',List.getD_eq_getElem?_getD,List.getElem?_eq_getElem hj']
    rfl
 have hq1:(Z++[q])[1]? = some q:=by rw[<-hZl];simp
 have hpl:p.1<w.heap.size:=by rw[<-hAb];exact hAlt
 have hback:∀i r,(Z++[q])[i]? = some r->(i=0/\r=p)∨(i=1/\r=q):=fun i r hi=>by
  have hi1:i<2:=by have:=(List.getElem?_eq_some_iff.1 hi).1;simp[hZl] at this;omega
  rcases Nat.lt_or_ge i 1 with h|h
  ·have:i=0:=by omega
   subst this
   rw[List.getElem?_append_left (by omega),hp] at hi
   cases hi
   exact .inl ⟨rfl,rfl⟩
  ·have:i=1:=by omega
   subst this
   rw[hq1] at hi
   cases hi
   exact .inr ⟨rfl,rfl⟩
 refine⟨FM,Z++[q],⟨v,rfl,q1 _ hq1⟩,⟨⟨hFMs,by simp[hZl],fun i r hi=>?_,fun i j r t hi hj hli hlj hrt=>?_⟩,R.st okh.j ⟨fun _ _ h=>h,fun _ _=>rfl,hFMs,fun b h=>hheap b (okh.bd b h).1 (fun e=>(okh.bd b h).2 (e▸hin)),hsize,hb.os.trans o1,hb.tape.trans o2,hb.output.trans o3⟩,fun b h=>⟨Nat.lt_of_lt_of_le (okh.bd b h).1 hsize,?_⟩⟩,
  ⟨⟨fun _ _ h=>h,fun b o h=>.inl h,fun b h=>?_,fun b h1 h2 h3=>hheap b h1 (fun e=>h2 (e▸hin)),hsize,hb.os.trans o1,hb.tape.trans o2,hb.output.trans o3⟩,fun b h=>.inl h,Sub.snoc _ _⟩⟩
 ·rcases hback i r hi with⟨rfl,rfl⟩|⟨rfl,rfl⟩
  ·refine⟨fun h=>Nat.lt_of_lt_of_le (k1 h) hsize,fun _=>⟨cs',e,by rw[<-hAb];exact hA',by omega,by omega,fun j hj=>?_,fun h=>(by cases h),fun _=>?_⟩⟩
   ·have:j=0:=by omega
    subst this
    refine⟨.int .u64 (Tb.cutN s (ai s).length),?_,rfl,trivial⟩
    simp only[World.cell?,hA'] at hcell'
    rw[hA] at hcell'
    simpa using hcell'
   ·rw[<-hAb];exact hFA
  ·exact⟨q2,q4 _⟩
 ·rcases hback i r hi with⟨rfl,rfl⟩|⟨rfl,rfl⟩ <;> rcases hback j t hj with⟨rfl,rfl⟩|⟨rfl,rfl⟩
  ·rfl
  ·exfalso
   have hn:0<(ai s).length*1:=by simpa[aK,ag] using hlj
   obtain⟨cs2,e2,d1,d2,d3,_⟩:=q4 Z hn
   have:=q3 (by omega)
   omega
  ·exfalso
   have hn:0<(ai s).length*1:=by simpa[aK,ag] using hli
   obtain⟨cs2,e2,d1,d2,d3,_⟩:=q4 Z hn
   have:=q3 (by omega)
   omega
  ·rfl
 ·rintro ⟨r,hr,hrb,hre⟩
  rcases List.mem_append.1 hr with hr|hr
  ·exact(okh.bd b h).2 ⟨r,hr,hrb,hre⟩
  ·have:r=q:=by simpa using hr
   subst this
   have:=q3 hre
   have:=(okh.bd b h).1
   omega
 ·obtain⟨r,hr,hrb,hre⟩:=h
  rcases List.mem_append.1 hr with hr|hr
  ·exact .inl ⟨r,hr,hrb,hre⟩
  ·have:r=q:=by simpa using hr
   subst this
   exact .inr (by rw[<-hrb];exact q3 hre)
theorem xm (R:Res)[Tab LT R](s:Nat)(hs:s<2^24)(g:R.σ):Does Tryd.prog R 75 [.fn 105 0 (nth []) 1 (nth [.ref 0 0])] [.cells false 1 (fun _=>.int .u64 s)] g
  (.ret (.fz .auto 1 (ai s).length (fun i _=>.int .i64 (((ai s).getD i 0:Nat):Int)))) [.cells false 1 (fun _=>.any)] g:=by
 refine ir (uS 1 [1] (hp2:=[.cells false 1 (fun _=>.any)]) (x:=.fz .auto 1 (ai s).length (fun i j=>nK s (i*1+j))) (lz R s hs g) (Nat.le_refl _) ⟨fun j _=>trivial,by show(ai s).length*1<=_;omega,trivial⟩ trivial ⟨fun j _=>trivial,trivial⟩ rfl rfl) (gq ⟨Al rfl (fun i j hi hj=>?_),trivial⟩ ⟨Ai _,trivial⟩ rfl)
 show AV.int .i64 _=_
 rw[show i*1+j=i by omega]
end Go.Avm.Pack
namespace Go.Avm.Pack
open Go Go.Avm Go.Proofs
open Go.IntKind (i64 u64)
open Go.Avm.AV (int bool any fz fp sl ow ref fn ifc val agg tup)
open Go.Avm.AObj (cells dead)
open Go.Avm.Oc (ret)
set_option maxRecDepth 4000
def clr (s a:Nat):Nat:=(BitVec.ofNat 64 s &&& ~~~ BitVec.ofNat 64 (2^a)).toNat
theorem nM {s a:Nat}(hs:s<2^24)(ha:a<24)(j:Nat):(clr s a).testBit j=(s.testBit j&&decide (j≠a)):=by
 unfold clr
 rw[BitVec.testBit_toNat,BitVec.getLsbD_and,BitVec.getLsbD_not,BitVec.getLsbD_ofNat,BitVec.getLsbD_ofNat,Nat.testBit_two_pow]
 by_cases hj:j<64
 ·simp only[hj,decide_true,Bool.true_and]
  by_cases h:j=a
  ·subst h;simp
  ·have h':¬a=j:=fun e=>h e.symm
   simp[h,h']
 ·rw[Nat.testBit_lt_two_pow (Nat.lt_of_lt_of_le (bC hs) (Nat.pow_le_pow_right dcd omg))]
  simp[hj]
theorem iE {s a:Nat}(hs:s<2^24):clr s a<=s:=by
 unfold clr
 rw[BitVec.toNat_and]
 refine Nat.le_trans Nat.and_le_left ?_
 rw[BitVec.toNat_ofNat]
 exact Nat.mod_le _ _
theorem xn {s a:Nat}(hs:s<2^24)(ha:a<24):IntKind.u64.wrap ((BitVec.ofInt 64 (s:Int) &&& ~~~ BitVec.ofInt 64 ((2^a:Nat):Int)).toNat:Int)=((clr s a:Nat):Int):=by
 rw[BitVec.ofInt_natCast,BitVec.ofInt_natCast]
 exact Tb.wrapU (bC (Nat.lt_of_le_of_lt (iE (a:=a) hs) hs))
def dc (v:Nat->Int)(r:Rule):Bool:=v r.head.toNat==3&&cx v r
def bk (p:Prg)(v:Nat->Int):Int:=aD (dc v) p.rules.l 0
theorem xp (R:Res)(p:Prg)(v:Nat->Int)(es:List (Value × AV))(r:Rule)(h:aI r)(g:R.σ):Does Tryd.prog R 113 [bQ r,.ref 2 0] [.cells false 27 (ad p v (.mp 1)),.map es,.cells false 1 (fun _=>.ref 0 0)] g (.ret (.bool (dc v r))) [.cells false 27 (ad p v (.mp 1)),.map es,.cells false 1 (fun _=>.ref 0 0)] g:=by
 have h1:=h.1
 have h2:=h.2
 refine spW (nt:=19) (rs:=[.tmp 3]) (k0:=3) ?_
 refine vcR [] (lkL [(0,[1,2]),(1,[3])]) (lkL [(1,[(6,ROrc.kop (int i64 (v (Int.toNat r.head)))),(13,ROrc.kcall (AV.bool (cx v r)))])]) (fun Q=>(fun (u1:List AObj)=>(fun (u2:Int)=>Flw Tryd.prog/\1<=1/\1<=2/\(0<=r.head/\r.head<(↑24:Int))/\OpOk Tryd.prog R (Oper.mk (some 10) (Op.load 43 (Operand.tmp 9)) 43 "table.go:168" #[Edge.mk 5 Ground.data] none) (evO [Row.mk (some 9) none (ref 0 (Int.toNat r.head+2)) false (some []) [],Row.mk (some 8) none (ref 0 2) false (some []) [],Row.mk (some 7) none (ref 0 0) false (some []) [],Row.mk (some 6) none (int i64 r.head) false (some []) [3],Row.mk (some 5) none (ref 3 0) false (some []) [],Row.mk (some 4) none (ref 0 0) false (some []) [2]] [(1,ref 2 0),(2,ref 3 0)] []) u1 g (int i64 u2) u1 g/\((u2==3)=true->1<=1)/\((u2==3)=true->2<=2)/\((u2==3)=true->true=true/\Does Tryd.prog R 114 [ref 0 2,bQ r] u1 g (ret (AV.bool (cx v r))) u1 g)/\Q AEx.ret (St.mk [(3,AV.bool (bif u2==3 then cx v r else false))] u1 g)) (v (Int.toNat r.head))) ([cells false 27 (ad p v (AV.mp 1)),AObj.map es,cells false 1 fun x=>ref 0 0,cells false 2 (nth [int i64 r.head,ap r.body])])) ⟨krf,omg,omg,omg,?_,omg,omg,(fun hgd=>⟨rfl,(doS [0,1] 4 (fun R g=>lj R (p) (v) (es) (r) omg g))⟩),?_⟩
 ·exact dC rfl rfl krf rfl (by show _+1<=27;omega) (dX omg omg)
 ·refine(av (bZ 3 _ _ rfl trivial omg trivial ⟨(fun _ _=>(by first|exact trivial|apply aV)),(fun j hj=>match j,hj with|0,_=>(show 1<=3 by omega) ),trivial⟩ krf rfl rfl) (Ag krf))
def dd (p:Prg)(v:Nat->Int)(s:Nat)(l:List Nat):Nat:=l.foldl (fun (s:Nat) (a:Nat)=>if (ofH p.rules.l (a:Int)).any (aZ v s) then clr s a else s) s
def bO (p:Prg)(v:Nat->Int)(s:Nat):Nat:=dd p v s (ai s)
def dZ (p:Prg)(v:Nat->Int):Nat->Nat->Nat
 |0,s=>s
 |n+1,s=>if bO p v s=s then s else dZ p v n (bO p v s)
def gre (p:Prg)(v:Nat->Int):Nat:=dZ p v (2^24+1) (aE v 3 p.atoms.toNat)
theorem xq {p:Prg}{v:Nat->Int}{s:Nat}{l:List Nat}{k:Nat}(hk:k<l.length):dd p v s (l.take (k+1))=if (ofH p.rules.l (l.getD k 0:Int)).any (aZ v (dd p v s (l.take k))) then clr (dd p v s (l.take k)) (l.getD k 0) else dd p v s (l.take k):=by
 unfold dd
 rw[List.take_add_one,List.foldl_append,List.getElem?_eq_getElem hk,List.getD_eq_getElem?_getD,List.getElem?_eq_getElem hk]
 rfl
theorem fH {p:Prg}{v:Nat->Int}:∀{l:List Nat} {s:Nat},s<2^24->dd p v s l<=s
 |[],s,_=>Nat.le_refl _
 |a::l,s,hs=>by
  show dd p v (if (ofH p.rules.l (a:Int)).any (aZ v s) then clr s a else s) l<=s
  split
  ·exact Nat.le_trans (fH (Nat.lt_of_le_of_lt (iE hs) hs)) (iE hs)
  ·exact fH hs
theorem xu (p:Prg)(v:Nat->Int)(n:Nat):dZ p v n 0=0:=by
 cases n with
 |zero=>rfl
 |succ n=>
  have h:bO p v 0=0:=by
   have:=fH (p:=p) (v:=v) (l:=ai 0) (s:=0) dcd
   exact Nat.le_zero.1 this
  show(if bO p v 0=0 then 0 else _)=0
  rw[if_pos h]
structure Stp where
 rule:Int
 atoms:List Int
 deriving Inhabited,DecidableEq
def bv (s:Nat):List Int:=(ai s).map (fun (a:Nat)=>(a:Int))
theorem gI (s:Nat):(bv s).length=(ai s).length:=by unfold bv;rw[List.length_map]
theorem jP (s j:Nat):(bv s).getD j 0=(((ai s).getD j 0:Nat):Int):=by
 unfold bv
 rw[List.getD_eq_getElem?_getD,List.getD_eq_getElem?_getD,List.getElem?_map]
 cases (ai s)[j]? <;> rfl
def am (p:Prg)(v:Nat->Int):Stp:=if 0<=bk p v then⟨bk p v,[(p.rules.l.getD (bk p v).toNat default).head]⟩ else⟨-1,bv (gre p v)⟩
def aX (p:Prg)(v:Nat->Int):Bool:=decide (0<=bk p v)||gre p v != 0
def af (l:List Int):Nat->AV:=fun j=>.int .i64 (l.getD j 0)
theorem rm {U:Type}(q:U->Bool):∀(l:List U) (i:Nat),aD q l i<(i:Int)+l.length
 |[],i=>by show(-1:Int)<_;simp;omega
 |x::r,i=>by
  unfold aD
  split
  ·simp;omega
  ·have:=rm q r (i+1)
   simp only[List.length_cons]
   omega
theorem Ao {o n es:Nat}{x ex:Bool}(h:n≠0):Le (.sl o 0 n n ex es) (.ow x o n es):=by
 rintro FM Z v ⟨p,cap',h1,rfl,h3,_,h5⟩
 refine⟨fun e=>absurd e h,fun _=>⟨p,cap',h1,by rw[Nat.add_zero],h3,omg⟩⟩
theorem xw (R:Res)(p:Prg)(v:Nat->Int)(es:List (Value × AV))(n:Int)(x:Int)(h:0<=n/\n<=24)(g:R.σ):Does Tryd.prog R 76 [.ref 0 2,.int .i64 n,.int .i64 x] [.cells false 27 (ad p v (.mp 1)),.map es] g (.ret (.int .u64 (aE v x n.toNat))) [.cells false 27 (ad p v (.mp 1)),.map es] g:=by
 obtain⟨m,rfl⟩:∃m:Nat,n=m:=⟨n.toNat,omg⟩
 exact wJ R p v es m x omg g
theorem nN (R:Res)[Tab LT R](p:Prg)(v:Nat->Int)(es:List (Value × AV))(hl:p.rules.l.length<1000000)(hr:∀r,r∈p.rules.l->aI r)(hes:HeadsOk es p.rules.l)(hp:1<=p.atoms/\p.atoms<=24)(g:R.σ):Does Tryd.prog R 96 [.ref 0 0] [.cells false 27 (ad p v (.mp 1)),.map es] g (.ret (.tup 2 (nth [.agg 2 (nth [.int .i64 (am p v).rule,.ow true 2 (am p v).atoms.length 1]),.bool (aX p v)]))) [.cells false 27 (ad p v (.mp 1)),.map es,.cells false ((am p v).atoms.length*1) (af (am p v).atoms)] g:=by
 have hlt:=rm (dc v) p.rules.l 0
 refine spW (nt:=59) (rs:=[.cell 2 71,.tmp 3]) (k0:=2) ?_
 refine vcR [] (lkL [(0,[1,2]),(1,[1,2,4]),(2,[1,2,4,16]),(3,[2,3]),(4,[1,2,5]),(5,[1,2,5,6])]) (lkL [(1,[(6,ROrc.kcall (int i64 (aD (dc v) p.rules.l 0)))]),(3,[(12,ROrc.val (Orc.obj (nth [int i64 (aD (dc v) p.rules.l 0),sl 4 0 1 1 true 1])))]),(4,[(8,ROrc.lcall (int u64 (↑(aE v 3 (Int.toNat p.atoms)):Int)) [0,1]),(10,ROrc.val (Orc.obj (nth [int u64 (↑(aE v 3 (Int.toNat p.atoms)):Int)])))])]) (fun Q=>(fun (u1:List AObj)=>(fun (u2:Int)=>(fun (u3:AV)=>(fun (u4:List AV)=>1<=1/\2<=27/\(true=true/\Does Tryd.prog R 112 [ae p.rules,fn 113 0 (nth []) 1 (nth [ref 2 0])] u1 g (ret (int i64 u2)) u1 g)/\(decide (u2 >= 0)=true->1<=1/\2<=27/\(0<=u2/\u2<(↑(List.length p.rules.l):Int))/\1<=2/\2<=2/\(∀(c:Nat),c<2->nth u4 c=aj (nth [int i64 0,fz Fz.nil 0 0 fun x x_1=>any]) 0 2 (List.brecOn (motive:=fun (x:List AV)=>Nat->AV) u4 nth._f) c)/\Q AEx.ret (St.mk [(2,ref 3 0),(3,AV.bool true)] [cells false 27 (ad p v (AV.mp 1)),AObj.map es,cells false 1 fun a=>ref 0 0,cells false 2 (nth u4),cells false 1 (aj (fun (j:Nat)=>int i64 0) 0 1 fun x=>int i64 (List.getD p.rules.l (Int.toNat u2) default).head)] g))/\(decide (u2 >= 0)=false->Flw Tryd.prog/\1<=1/\1<=1/\1<=27/\(∀(hp':List AObj) (g':R.σ),SameO [0,1] u1 hp'->true=true/\Does Tryd.prog R 76 [ref 0 2,int i64 p.atoms,int i64 3] hp' g' (ret u3) hp' g')/\1<=1/\(∀(c:Nat),c<1->nth [u3] c=aj (fun (a:Nat)=>int u64 0) 0 1 (fun (x:Nat)=>u3) c)/\WpC Tryd.prog R 59 2 96 [1,1,1,1,0,1,0] Q [Kont.blk 0,Kont.seq [1,1,1,1,1]] (St.mk [(1,ref 2 0),(2,ref 3 0),(5,ref 4 0),(6,int u64 0)] [cells false 27 (ad p v (AV.mp 1)),AObj.map es,cells false 1 fun a=>ref 0 0,cells false 2 (nth [int i64 0,fz Fz.nil 0 0 fun x x_1=>any]),cells false 1 (nth [u3])] g))) ([int i64 u2,sl 4 0 1 1 true 1])) (int u64 (↑(aE v 3 (Int.toNat p.atoms)):Int))) (aD (dc v) p.rules.l 0)) ([cells false 27 (ad p v (AV.mp 1)),AObj.map es,cells false 1 fun a=>ref 0 0,cells false 2 (nth [int i64 0,fz Fz.nil 0 0 fun x x_1=>any])])) ⟨omg,omg,⟨rfl,(ws _ _ _ _ _ _ _ _ _ _ omg krf (fun r _=>(doT (T:=LT) [0,1,2] 4 (fun R _ g=>xp R (p) (v) (es) (r) ?_ g))))⟩,fun c1=>have c1:aD (dc v) p.rules.l 0 >= 0:=(of_decide_eq_true c1);⟨omg,omg,omg,omg,omg,(fun c hc=>match c,hc with|0,_=>krf|1,_=>krf ),?_⟩,fun c1=>have c1:¬aD (dc v) p.rules.l 0 >= 0:=(of_decide_eq_false c1);⟨krf,omg,omg,omg,?_,omg,(fun c hc=>match c,hc with|0,_=>krf ),?_⟩⟩
 ·exact hr _ (by assumption)
 ·have c1':0<=bk p v:=by unfold bk;omega
  have hn:am p v=⟨bk p v,[(p.rules.l.getD (bk p v).toNat default).head]⟩:=if_pos c1'
  have hb:aX p v=true:=by unfold aX;rw[decide_eq_true c1'];rfl
  rw[hn,hb]
  refine eA (.tup 2 (nth [.agg 2 (nth [.int .i64 (bk p v),.sl 4 0 1 1 true 1]),.bool true])) _ rfl (by exact⟨dcd,trivial⟩) (toS [0,1,4] 5 (hfr:=⟨Aj (fun j hj=>match j,hj with|0,_=>Ak (fun j hj=>match j,hj with|0,_=>Af _|1,_=>Ao dcd)|1,_=>Af _),trivial⟩) (hob:=⟨Ap (fun j hj=>(cw rfl).symm),rfl,Ap (fun j hj=>match j,hj with|0,_=>rfl),trivial⟩))
 ·intro hp' g' hs
  exact⟨rfl,jD [0,1] (fun R g=>xw R p v es p.atoms 3 omg g) (by exact⟨rfl,rfl,trivial⟩) rfl (by exact fun n=>⟨Ap (fun j hj=>(cw rfl).symm),rfl,trivial⟩) ⟨omg,trivial⟩ (by exact fun n=>⟨Af _,Af _,Af _,trivial⟩) rfl (by exact fun n=>Af _) (by exact fun n=>⟨Ap (fun j hj=>cw rfl),rfl,trivial⟩) hp' g' hs⟩
 ·have hset:=ll v 3 p.atoms.toNat
  have hs0:aE v 3 p.atoms.toNat<2^24:=Nat.lt_of_lt_of_le hset (Nat.pow_le_pow_right dcd omg)
  refine(bl krf (fun (x:Nat × Nat)=>⟨[(1,ref 2 0),(2,ref 3 0),(5,ref 4 0),(6,.int .u64 x.1)],[.cells false 27 (ad p v (.mp 1)),.map es,.cells false 1 (fun _=>.ref 0 0),.cells false 2 (nth [.int .i64 0,.fz .nil 0 0 fun _ _=>.any]),.cells false 1 (fun _=>.int .u64 x.2)],g⟩) (fun (x:Nat × Nat)=>(x.2<2^24/\(x.2=x.1->gre p v=x.2)/\(x.2≠x.1->∃f,x.2<f/\dZ p v f x.2=gre p v))) (fun (x:Nat × Nat)=>(if x.2=x.1 then 0 else x.2+1)) (0,aE v 3 p.atoms.toNat) (toL (h1:=⟨Af _,Af _,Af _,(Ag krf),trivial⟩)) ?_ (fun x hi=>?_))
  ·refine⟨hs0,fun h=>?_,fun _=>⟨2^24+1,by show aE v 3 p.atoms.toNat<_;omega,rfl⟩⟩
   have h:aE v 3 p.atoms.toNat=0:=h
   show gre p v=aE v 3 p.atoms.toNat
   unfold gre
   rw[h]
   exact xu p v _
  ·obtain⟨b,s⟩:=x
   obtain⟨h1,h2,h3⟩:=hi
   simp only at h1 h2 h3
   refine vcR [] (lkL [(6,[1,2,5,40]),(7,[1,2,5,6]),(8,[1,2,5,6,43])]) (lkL [(8,[(1,ROrc.call (fn 105 0 (nth []) 1 (nth [ref (List.length [cells false 27 (ad p v (AV.mp 1)),AObj.map es,cells false 1 fun (x:Nat)=>ref 0 0,cells false 2 (nth [int i64 0,fz Fz.nil 0 0 fun (x x_1:Nat)=>any]),cells false 1 fun (x:Nat)=>int u64 (↑s:Int)]) 0])) ([cells false 27 (ad p v (AV.mp 1)),AObj.map es,cells false 1 fun (x:Nat)=>ref 0 0,cells false 2 (nth [int i64 0,fz Fz.nil 0 0 fun (x x_1:Nat)=>any]),cells false 1 fun (x:Nat)=>int u64 (↑s:Int)]++[cells false 1 fun (x:Nat)=>int u64 (↑s:Int)]) g)])]) (fun Q=>(fun (u1:List AObj)=>(fun (u2:List AObj)=>(fun (u3:Bool)=>1<=1/\(u3=true->1<=1/\(true=true/\Does Tryd.prog R 77 [int u64 (↑s:Int)] u2 g (ret (fn 105 0 (nth []) 1 (nth [ref 5 0]))) u1 g)/\WpC Tryd.prog R 59 2 96 [1,1,1,1,0,1,0,0,1,0,1,1,0] Q [Kont.blk 2,Kont.blk 1] (St.mk [(1,ref 2 0),(2,ref 3 0),(5,ref 4 0),(6,int u64 (↑s:Int)),(43,fn 105 0 (nth []) 1 (nth [ref 5 0]))] u1 g))/\(u3=false->Q (AEx.exit 0) (St.mk [(1,ref 2 0),(2,ref 3 0),(5,ref 4 0),(40,AV.bool u3)] u2 g))) ((↑s:Int) != (↑b:Int))) ([cells false 27 (ad p v (AV.mp 1)),AObj.map es,cells false 1 fun x=>ref 0 0,cells false 2 (nth [int i64 0,fz Fz.nil 0 0 fun x x_1=>any]),cells false 1 fun x=>int u64 (↑s:Int)])) ([cells false 27 (ad p v (AV.mp 1)),AObj.map es,cells false 1 fun x=>ref 0 0,cells false 2 (nth [int i64 0,fz Fz.nil 0 0 fun x x_1=>any]),cells false 1 fun x=>int u64 (↑s:Int),cells false 1 fun x=>int u64 (↑s:Int)])) ⟨omg,fun c1=>have c1:¬(↑s:Int)=(↑b:Int):=(bne_iff_ne.mp c1);⟨omg,⟨rfl,(cQ _ _ _ _)⟩,?_⟩,fun c1=>have c1:(↑s:Int)=(↑b:Int):=(bne_eq_false_iff_eq.mp c1);?_⟩
   ·have hne:s≠b:=by omega
    have hseq:=lf s h1
    obtain⟨l,hle⟩:∃l,ai s=l:=⟨_,rfl⟩
    have hcs:bO p v s=dd p v s l:=by unfold bO;rw[hle]
    rw[hle] at hseq
    have hin:∀k,k<l.length->l.getD k 0<24:=fun k hk=>by
     have h:=bR l 0 hk
     have h':l.getD k 0∈ai s:=by rw[hle];exact h
     exact(Tb.mem_memN.1 h').1
    refine iw 43 [44] 5 krf rfl rfl rfl hseq (fun _=>rfl) krf (fun _=>⟨trivial,trivial⟩)
     (fun _=>none) (fun _=>rfl)
     (fun k=>[.cells false 27 (ad p v (.mp 1)),.map es,.cells false 1 (fun _=>.ref 0 0),.cells false 2 (nth [.int .i64 0,.fz .nil 0 0 fun _ _=>.any]),.cells false 1 (fun _=>.int .u64 (dd p v s (l.take k)))])
     (fun _=>g) (fx rfl rfl) (fun _=>rfl) (by exact⟨omg,omg,omg,omg,omg,trivial⟩) (by exact⟨fun j _=>aV _ _ 3 _,trivial,fun _ _=>show 0<5 by omega,fun j hj=>(match j,hj with|0,_=>trivial|1,_=>trivial),fun _ _=>trivial,trivial⟩) (by exact⟨fun _ _=>trivial,trivial⟩) [1,5] (by exact⟨show 2<5 by omega,show 4<5 by omega,trivial⟩) (fun k l' hk hjk=>?_) (fun _=>?_) (fun k hk hj hr=>by cases hr) (fun k id hk hj hr=>by cases hr)
    ·obtain⟨a,ha⟩:∃a,l.getD k 0=a:=⟨_,rfl⟩
     have ha24:a<24:=by rw[<-ha];exact hin k hk
     obtain⟨t,ht⟩:∃t,dd p v s (l.take k)=t:=⟨_,rfl⟩
     have ht24:t<2^24:=by rw[<-ht];exact Nat.lt_of_le_of_lt (fH h1) h1
     have hnx:=xq (p:=p) (v:=v) (s:=s) hk
     rw[ha,ht] at hnx
     rw[ha,ht,hnx]
     refine vcR [] (lkL [(9,[1,2,5,6,7])]) (fun _=>[]) (fun (Q:AEx->St R.σ->Prop)=>Q AEx.normal (St.mk [(1,ref 2 0),(2,any),(5,ref 4 0),(6,any),(7,int i64 (↑a:Int))] [cells false 27 (ad p v (AV.mp 1)),AObj.map es,cells false 1 fun (x:Nat)=>ref 0 0,cells false 2 (nth [int i64 0,fz Fz.nil 0 0 fun (x x_1:Nat)=>any]),cells false 1 fun (x:Nat)=>int u64 (↑t:Int)] g)) (?_)
     show Wp _ _ _ 5 _ _ _ _ _
     refine vcR [] (lkL [(10,[1,2,5,6,7,48]),(11,[1,2,5,6])]) (lkL [(10,[(3,ROrc.kcall (AV.bool (List.any (ofH p.rules.l (↑a:Int)) (aZ v t))))]),(11,[(2,ROrc.pcall (int u64 (↑(2^a):Int))),(4,ROrc.val (Orc.obj (nth [int u64 (IntKind.wrap u64 (↑(BitVec.toNat (BitVec.ofInt 64 (↑t:Int) &&& ~~~BitVec.ofInt 64 (↑(2^a):Int))):Int))])))])]) (fun Q=>(fun (u1:List AObj)=>(fun (u2:AV)=>(fun (u3:Bool)=>1<=1/\1<=1/\(true=true/\Does Tryd.prog R 115 [ref 0 0,int i64 (↑a:Int),int u64 (↑t:Int)] u1 g (ret (AV.bool u3)) u1 g)/\(u3=true->Flw Tryd.prog/\1<=1/\(∀(hp:List AObj) (g:R.σ),true=true/\Does Tryd.prog R 79 [int i64 (↑a:Int)] hp g (ret (int u64 (↑(2^a):Int))) hp g)/\1<=1/\(∀(c:Nat),c<1->nth [u2] c=aj (fun (x:Nat)=>int u64 (↑t:Int)) 0 1 (fun (x:Nat)=>u2) c)/\Q AEx.normal (St.mk [(1,ref 2 0),(2,any),(5,ref 4 0),(6,any)] [cells false 27 (ad p v (AV.mp 1)),AObj.map es,cells false 1 fun x=>ref 0 0,cells false 2 (nth [int i64 0,fz Fz.nil 0 0 fun x x_1=>any]),cells false 1 (nth [u2])] g))/\(u3=false->Q AEx.normal (St.mk [(1,ref 2 0),(2,any),(5,ref 4 0),(6,any),(7,int i64 (↑a:Int)),(48,AV.bool u3)] u1 g))) (List.any (ofH p.rules.l (↑a:Int)) (aZ v t))) (int u64 (IntKind.wrap u64 (↑(BitVec.toNat (BitVec.ofInt 64 (↑t:Int) &&& ~~~BitVec.ofInt 64 (↑(2^a):Int))):Int)))) ([cells false 27 (ad p v (AV.mp 1)),AObj.map es,cells false 1 fun x=>ref 0 0,cells false 2 (nth [int i64 0,fz Fz.nil 0 0 fun x x_1=>any]),cells false 1 fun x=>int u64 (↑t:Int)])) ⟨omg,omg,⟨rfl,(doT (T:=LT) [0,1] 5 (fun R _ g=>jM R (p) (v) (es) (t) (a) omg omg omg omg omg g))⟩,fun c1=>⟨krf,omg,(fun _ _=>⟨rfl,(gF _ _ omg _ _)⟩),omg,(fun c hc=>match c,hc with|0,_=>krf ),?_⟩,fun c1=>?_⟩
     ·refine(eB rfl (toL (h2:=⟨Ah,rfl,Ah,Ah,⟨rfl,Nat.le_refl _,fun j hj=>match j,hj with|0,_=>(Ag ?_) ⟩,trivial⟩)))
      show AV.int .u64 _=AV.int .u64 _
      rw[if_pos c1]
      congr 1
      exact xn ht24 ha24
     ·refine(eB rfl (toL (h2:=⟨Ah,rfl,Ah,Ah,⟨rfl,Nat.le_refl _,fun j hj=>match j,hj with|0,_=>(Ag ?_) ⟩,trivial⟩)))
      show AV.int .u64 _=AV.int .u64 _
      rw[if_neg (by rw[c1];decide)]
    ·rw[List.take_length,<-hcs]
     have hle':bO p v s<=s:=by rw[hcs];exact fH h1
     obtain⟨f,f1,f2⟩:=h3 hne
     obtain⟨f,rfl⟩:∃k,f=k+1:=⟨f-1,omg⟩
     have f3:dZ p v (f+1) s=if bO p v s=s then s else dZ p v f (bO p v s):=rfl
     rw[f3] at f2
     refine(aU (s,bO p v s) (toS [0,1,2,3,4] 6 (hob:=⟨⟨by first|rfl|(simp;done),by first|exact Nat.le_refl _|(simp;done)|(simp;omega),fun j hj=>(by first|exact bc (by first|exact trivial|apply aV)|exact Ag (cw rfl).symm)⟩,rfl,⟨rfl,Nat.le_refl _,fun j hj=>match j,hj with|0,_=>(Af _) ⟩,⟨rfl,Nat.le_refl _,fun j hj=>match j,hj with|0,_=>(Af _)|1,_=>(Af _) ⟩,⟨rfl,Nat.le_refl _,fun j hj=>match j,hj with|0,_=>(Af _) ⟩,trivial⟩)) ?_ ?_)
     ·refine⟨omg,fun h=>?_,fun h=>⟨f,?_,?_⟩⟩
      ·have h:bO p v s=s:=h
       rw[if_pos h] at f2
       rw[<-f2];exact h.symm
      ·have h:bO p v s≠s:=h
       omega
      ·have h:bO p v s≠s:=h
       rw[if_neg h] at f2
       exact f2
     ·show(if bO p v s=s then 0 else bO p v s+1)<if s=b then 0 else s+1
      rw[if_neg hne]
      split <;> omega
   ·have hsb:s=b:=by omega
    subst hsb
    have hg:=h2 rfl
    refine⟨_,Ar _,vcR [] (lkL [(12,[2,3])]) (lkL [(12,[(1,ROrc.callN (fn 105 0 (nth []) 1 (nth [ref (List.length [cells false 27 (ad p v (AV.mp 1)),AObj.map es,cells false 1 fun (x:Nat)=>ref 0 0,cells false 2 (nth [int i64 0,fz Fz.nil 0 0 fun (x x_1:Nat)=>any]),cells false 1 fun (x:Nat)=>int u64 (↑s:Int)]) 0])) [] [cells false 1 fun (x:Nat)=>int u64 (↑s:Int)] g),(2,ROrc.callN (ow true 6 (List.length (ai s)) 1) [(5,cells false 1 fun (j:Nat)=>any)] [cells false (List.length (ai s)*1) fun (j:Nat)=>int i64 (↑(List.getD (ai s) j 0):Int)] g),(6,ROrc.val (Orc.obj (nth [int i64 (-1),ow true 6 (List.length (ai s)) 1])))])]) (fun Q=>(fun (u1:AObj)=>(fun (u2:AObj)=>(fun (u3:AObj)=>(fun (u4:List AObj)=>(fun (u5:AObj)=>(fun (u6:AV)=>Flw Tryd.prog/\1<=1/\(true=true/\Does Tryd.prog R 77 [int u64 (↑s:Int)] [u5,AObj.map es,u3,u2,u1] g (ret (fn 105 0 (nth []) 1 (nth [ref 5 0]))) [u5,AObj.map es,u3,u2,u1,u1] g)/\(true=true/\Does Tryd.prog R 75 [fn 105 0 (nth []) 1 (nth [ref 5 0])] [u5,AObj.map es,u3,u2,u1,u1] g (ret u6) (u5::AObj.map es::u3::u2::u4) g)/\1<=1/\2<=2/\(∀(c:Nat),c<2->nth [int i64 (-1),u6] c=aj (nth [int i64 0,fz Fz.nil 0 0 fun x x_1=>any]) 0 2 (List.brecOn (motive:=fun (x:List AV)=>Nat->AV) [int i64 (-1),u6] nth._f) c)/\Q AEx.ret (St.mk [(2,ref 3 0),(3,AV.bool ((↑s:Int) != 0))] (u5::AObj.map es::u3::cells false 2 (nth [int i64 (-1),u6])::u4) g)) (ow true 6 (List.length (ai s)) 1)) (cells false 27 (ad p v (AV.mp 1)))) ([u1,cells false 1 fun j=>any,cells false (List.length (ai s)*1) fun j=>int i64 (↑(List.getD (ai s) j 0):Int)])) (cells false 1 fun x=>ref 0 0)) (cells false 2 (nth [int i64 0,fz Fz.nil 0 0 fun x x_1=>any]))) (cells false 1 fun x=>int u64 (↑s:Int))) ⟨krf,omg,⟨rfl,(cQ _ _ _ _)⟩,⟨rfl,(doT (T:=LT) [5] 6 (fun R _ g=>lz R (s) omg g))⟩,omg,omg,(fun c hc=>match c,hc with|0,_=>krf|1,_=>krf ),?_⟩⟩
    have hnf:¬0<=bk p v:=by unfold bk;omega
    have hn:am p v=⟨-1,bv s⟩:=by unfold am;rw[if_neg hnf,hg]
    have hb:aX p v=(s != 0):=by unfold aX;rw[decide_eq_false hnf,hg];rfl
    rw[hn,hb]
    show bt Tryd.prog R 2 _ _ _ _ .ret _
    refine eA (.tup 2 (nth [.agg 2 (nth [.int .i64 (-1),.ow true 6 (ai s).length 1]),.bool ((s:Int) != 0)])) _ rfl (by exact⟨dcd,trivial⟩) (toS [0,1,6] 7 (hfr:=⟨Aj (fun j hj=>match j,hj with|0,_=>Ak (fun j hj=>match j,hj with|0,_=>Af _|1,_=>Ag ?_)|1,_=>Ag ?_),trivial⟩) (hob:=⟨Ap (fun j hj=>(cw rfl).symm),rfl,⟨rfl,?_,fun j hj=>Ag ?_⟩,trivial⟩))
    ·show AV.ow _ _ _ _=AV.ow _ 6 (bv s).length 1
     rw[gI]
    ·show AV.bool _=AV.bool _
     congr 1
     rw[Bool.eq_iff_iff,bne_iff_ne,bne_iff_ne]
     omega
    ·show(bv s).length*1<=(ai s).length*1
     rw[gI]
     exact Nat.le_refl _
    ·show AV.int .i64 _=AV.int .i64 ((bv s).getD j 0)
     rw[jP]
def eH (s:Stp):Step:=⟨s.rule,s.atoms,.opn⟩
theorem xx (R:Res)(p:Prg)(v:Nat->Int)(es:List (Value × AV))(s:Stp)(hl:p.rules.l.length<1000000)(hr:∀r,r∈p.rules.l->aI r)(h:cR p v (eH s)=true)(g:R.σ):Does Tryd.prog R 141 [.agg 2 (nth [.int .i64 s.rule,.ow true 2 s.atoms.length 1]),.ref 0 0] [.cells false 27 (ad p v (.mp 1)),.map es,.cells false (s.atoms.length*1) (af s.atoms)] g (.ret (.tup 0 (nth []))) [.cells false 27 (ad p (eF p v (eH s)) (.mp 1)),.map es,.cells false (s.atoms.length*1) (af s.atoms)] g:=by
 unfold cR at h
 simp only[Bool.and_eq_true,beq_iff_eq,decide_eq_true_eq] at h
 obtain⟨hA,hB,hC,hD,hE⟩:=h
 have hA:0<=s.rule/\s.rule<=(p.rules.l.length:Int)-1:=hA
 have hB:s.atoms.length=1:=hB
 have hC:s.atoms.getD 0 0=(p.rules.l.getD s.rule.toNat default).head:=hC
 have hD:v (p.rules.l.getD s.rule.toNat default).head.toNat=3:=hD
 have hE:cx v (p.rules.l.getD s.rule.toNat default)=true:=hE
 have hq:=hr _ (fF (show s.rule.toNat<p.rules.l.length by omega))
 have q1:=hq.1
 have q2:=hq.2
 have ho:∀j,aj (ad p v (.mp 1)) ((p.rules.l.getD s.rule.toNat default).head.toNat+2) 1 (fun _=>.int .i64 2) j=ad p (cy v (p.rules.l.getD s.rule.toNat default).head.toNat 2) (.mp 1) j:=fun j=>lp rfl omg (fun _=>.int .i64 2) rfl
 refine spW (nt:=66) (rs:=[]) (k0:=3) ?_
 refine vcR [] (lkL [(0,[1,2]),(1,[1,2]),(2,[1,2,4]),(3,[1,4])]) (lkL [(1,[(10,ROrc.pcall (AV.bool (decide (0<=s.rule/\s.rule<=(p.rules.l.length:Int)-1)))),(18,ROrc.pcall (tup 0 (nth [])))]),(2,[(11,ROrc.val (Orc.obj (nth [int i64 (p.rules.l.getD (s.rule.toNat) default).head,ap (p.rules.l.getD (s.rule.toNat) default).body])))]),(3,[(15,ROrc.kop (int i64 (v ((p.rules.l.getD (s.rule.toNat) default).head.toNat)))),(23,ROrc.kcall (AV.bool true)),(25,ROrc.pcall (tup 0 (nth [])))])]) (fun Q=>(fun (u1:Rule)=>(fun (u2:List AObj)=>(fun (u3:Int)=>(fun (u4:Bool)=>(fun (u5:Bool)=>(fun (u6:List AObj)=>(fun (u7:Bool)=>(fun (u8:Bool)=>(fun (u9:Option (List Nat))=>(fun (u10:Option (Nat × Bool))=>(fun (u11:Nat)=>u5=true/\1<=2/\2<=27/\(-9223372036854775808<=u3/\u3<=9223372036854775807)/\(∀(hp:List AObj) (g:R.σ),true=true/\Does Tryd.prog R 58 [int i64 s.rule,int i64 0,int i64 u3] hp g (ret (AV.bool u8)) hp g)/\(u8=true->2<=2)/\(∀(hp:List AObj) (g:R.σ),true=true/\Does Tryd.prog R 140 [AV.bool (bif u8 then(u11:Int)==1 else false)] hp g (ret (tup 0 (nth []))) hp g)/\u5=true/\2<=27/\1<=2/\(0<=s.rule/\s.rule<(p.rules.l.length:Int))/\2<=2/\2<=2/\(∀(c:Nat),c<2->nth [int i64 u1.head,ap u1.body] c=aj (nth [int i64 0,fz Fz.nil 0 0 fun x x_1=>any]) 0 2 (List.brecOn (motive:=fun (x:List AV)=>Nat->AV) [int i64 u1.head,ap u1.body] nth._f) c)/\u5=true/\2<=2/\((↑0:Int)<=0/\0<(u11:Int))/\1<=u11*1/\1<=2/\(u4=true->1<=2)/\(u4=true->0<=u1.head/\u1.head<(↑24:Int))/\(u4=true->OpOk Tryd.prog R (Oper.mk (some 49) (Op.load 43 (Operand.tmp 48)) 43 "table.go:147" #[Edge.mk 14 Ground.data,Edge.mk 8 Ground.guard] u10) (evO [Row.mk (some 48) u10 (ref 0 (u1.head.toNat+2)) false u9 [],Row.mk (some 47) u10 (ref 0 2) false u9 [],Row.mk (some 46) u10 (ref 0 0) false u9 [],Row.mk (some 45) u10 (int i64 u1.head) false u9 [4],Row.mk (some 44) u10 (ref 4 0) false u9 [],Row.mk (some 43) u10 (ref 0 0) false u9 [],Row.mk (some 42) none (AV.bool u4) false u9 [],Row.mk (some 41) none (AV.bool u4) false u9 [],Row.mk (some 40) none (int i64 u1.head) false u9 [4],Row.mk (some 39) none (ref 4 0) false u9 [],Row.mk (some 38) none (af s.atoms 0) false u9 [2],Row.mk (some 37) none (ref 2 0) false u9 [],Row.mk (some 36) none (ow true 2 u11 1) false u9 [3],Row.mk (some 35) none (ref 3 1) false u9 [],Row.mk (some 34) none (ref 3 0) false u9 []] [(1,ref 0 0),(2,ref 3 0),(4,ref 4 0)] [(8,true)]) u6 g (int i64 (v (u1.head.toNat))) u6 g)/\(u7=true->2<=2)/\(u7=true->true=true/\Does Tryd.prog R 114 [ref 0 2,bQ u1] u6 g (ret (AV.bool true)) u6 g)/\(∀(hp:List AObj) (g:R.σ),true=true/\Does Tryd.prog R 140 [AV.bool (bif u7 then true else false)] hp g (ret (tup 0 (nth []))) hp g)/\u5=true/\1<=2/\(0<=u1.head/\u1.head<(↑24:Int))/\u1.head.toNat+2+1<=27/\Q AEx.normal (St.mk [] (cells false 27 (aj (ad p v (AV.mp 1)) (u1.head.toNat+2) 1 fun x=>int i64 2)::u2) g)) (s.atoms.length)) (some (8,true))) (some [])) (decide (0<=s.rule/\s.rule<=u3))) (bif u4 then v (u1.head.toNat)==3 else false)) (cells false 27 (ad p v (AV.mp 1))::u2)) (Tables.follows Tryd.prog.toTables Departure.mixedOrders)) (s.atoms.getD 0 0==u1.head)) ((p.rules.l.length:Int)-1)) ([AObj.map es,cells false (s.atoms.length*1) fun a=>af s.atoms a,cells false 2 (nth [int i64 s.rule,ow true 2 (s.atoms.length) 1]),cells false 2 (nth [int i64 u1.head,ap u1.body])])) (p.rules.l.getD (s.rule.toNat) default)) ⟨krf,omg,omg,omg,(fun _ _=>⟨rfl,(dD _ _ _ _ _ _)⟩),omg,(fun _ _=>⟨rfl,(dQ _ _ (by simp at * <;> omega) _ _)⟩),krf,omg,omg,omg,omg,omg,(fun c hc=>match c,hc with|0,_=>krf|1,_=>krf ),krf,omg,omg,omg,omg,omg,omg,?_,omg,(fun hgd=>⟨rfl,(jz hE (doS [0,1] 5 (fun R g=>lj R (p) (v) (es) (p.rules.l.getD (s.rule.toNat) default) omg g)))⟩),(fun _ _=>⟨rfl,(dQ _ _ (by simp at * <;> omega) _ _)⟩),krf,omg,omg,omg,?_⟩
 ·intro _
  exact dC rfl rfl krf rfl (by show _+1<=27;omega) (dX omg omg)
 ·refine(av (bZ 3 _ _ rfl trivial omg trivial ⟨(fun _ _=>?_),(fun _ _=>trivial),trivial⟩ ?_ rfl rfl) (Af _))
  ·rw[ho];exact aV _ _ 1 _
  ·show [AObj.cells false 27 (aj (ad p v (.mp 1)) ((p.rules.l.getD s.rule.toNat default).head.toNat+2) 1 (fun _=>.int .i64 2)),AObj.map es,_]=_
   rw[show aj (ad p v (.mp 1)) ((p.rules.l.getD s.rule.toNat default).head.toNat+2) 1 (fun _=>.int .i64 2)=ad p (cy v (p.rules.l.getD s.rule.toNat default).head.toNat 2) (.mp 1) from funext ho]
   rfl
theorem xy (R:Res)[Tab LT R](p:Prg)(v:Nat->Int)(es:List (Value × AV))(s:Stp)(hl:p.rules.l.length<1000000)(hr:∀r,r∈p.rules.l->aI r)(hes:HeadsOk es p.rules.l)(hp:1<=p.atoms/\p.atoms<=24)(hsl:s.atoms.length<1000000)(h1':db p v s.atoms=true)(hns:dE p v (aJ s.atoms)=true)(g:R.σ):Does Tryd.prog R 139 [.agg 2 (nth [.int .i64 s.rule,.ow true 2 s.atoms.length 1]),.ref 0 0] [.cells false 27 (ad p v (.mp 1)),.map es,.cells false (s.atoms.length*1) (af s.atoms)] g (.ret (.tup 0 (nth []))) [.cells false 27 (ad p (bW v (aJ s.atoms)) (.mp 1)),.map es,.cells false (s.atoms.length*1) (af s.atoms)] g:=by
 unfold db at h1'
 rw[Bool.and_eq_true] at h1'
 obtain⟨h0,hall⟩:=h1'
 have h0:0<s.atoms.length:=of_decide_eq_true h0
 have hck:∀i,i<s.atoms.length->eG p v s.atoms i=true:=fun i hi=>(List.all_eq_true.1 hall) i (List.mem_range.2 hi)
 have hpos:((s.atoms.length:Nat):Int) > 0:=by omega
 refine spW (nt:=79) (rs:=[]) (k0:=3) ?_
 refine vcR [] (lkL [(0,[2,3]),(1,[2,3]),(2,[2,3,4]),(3,[2,3,4,17,18,19])]) (lkL [(1,[(5,ROrc.pcall (tup 0 (nth [])))])]) (fun Q=>(fun (u1:Nat)=>2<=2/\(∀(hp:List AObj) (g:R.σ),true=true/\Does Tryd.prog R 140 [AV.bool (decide ((↑u1:Int) > 0))] hp g (ret (tup 0 (nth []))) hp g)/\2<=2/\WpC Tryd.prog R 79 3 139 [1,1,1,0,1,0] Q [Kont.blk 0,Kont.seq [1,1,1,1]] (St.mk [(2,ref 3 0),(3,ref 4 0),(4,ref 5 0),(17,ow true 2 u1 1),(18,int i64 (↑u1:Int)),(19,int i64 0)] [cells false 27 (ad p v (AV.mp 1)),AObj.map es,cells false (u1*1) fun a=>af s.atoms a,cells false 2 (nth [int i64 s.rule,ow true 2 u1 1]),cells false 1 fun a=>ref 0 0,cells false 1 fun a=>int u64 0] g)) (List.length s.atoms)) ⟨omg,(fun _ _=>⟨rfl,(dQ _ _ (by simp at * <;> omega) _ _)⟩),omg,?_⟩
 refine(bl krf (fun (i:Nat)=>⟨[(2,ref 3 0),(3,ref 4 0),(4,ref 5 0),(17,ow true 2 (s.atoms.length) 1),(18,int i64 (s.atoms.length:Int)),(19,.int .i64 i)],[.cells false 27 (ad p v (.mp 1)),.map es,.cells false (s.atoms.length*1) (af s.atoms),.cells false 2 (nth [.int .i64 s.rule,.ow true 2 s.atoms.length 1]),.cells false 1 (fun _=>.ref 0 0),.cells false 1 (fun _=>.int .u64 (aJ (s.atoms.take i)))],g⟩) (fun (i:Nat)=>(i<=s.atoms.length/\aJ (s.atoms.take i)<2^24)) (fun (i:Nat)=>(s.atoms.length-i)) 0 (toL (h1:=⟨Af _,Af _,Af _,Af _,Af _,(Ag krf),trivial⟩)) ?_ (fun i hi=>?_))
 ·exact⟨Nat.zero_le _,(by decide:(0:Nat)<2^24)⟩
 ·obtain⟨h1,h2⟩:=hi
  rcases Nat.lt_or_ge i s.atoms.length with hlt|hge
  ·have hx:=nA hlt
   have hm:=hck i hlt
   have hm':(bif ep p s.atoms i then v (s.atoms.getD i 0).toNat==3 else false)=true:=hm
   have hA:=jN (lq hm)
   refine vcR [] (lkL [(4,[2,3,4,17,18,19,20]),(5,[2,3,4,5,6,17,18,19]),(6,[2,3,4,6,17,18,19]),(7,[2,3,4,17,18,19]),(8,[2,3,4,17,18,19])]) (lkL [(6,[(7,ROrc.pcall (AV.bool (decide (0<=List.getD s.atoms i 0/\List.getD s.atoms i 0<=p.atoms-1)))),(29,ROrc.kop (int i64 (v (Int.toNat (List.getD s.atoms i 0))))),(32,ROrc.pcall (tup 0 (nth [])))]),(7,[(2,ROrc.pcall (int u64 (↑(2^Int.toNat (List.getD s.atoms i 0)):Int))),(4,ROrc.val (Orc.obj (nth [int u64 (IntKind.wrap u64 (↑(BitVec.toNat (BitVec.ofInt 64 (↑(aJ (List.take i s.atoms)):Int)|||BitVec.ofInt 64 (↑(2^Int.toNat (List.getD s.atoms i 0)):Int))):Int))])))])]) (fun Q=>(fun (u1:Int)=>(fun (u2:Bool)=>(fun (u3:List AObj)=>(fun (u4:Int)=>(fun (u5:AV)=>(fun (u6:Nat)=>(fun (u7:Bool)=>(fun (u8:Option (List Nat))=>(fun (u9:Int)=>(fun (u10:Int)=>(fun (u11:Option (Nat × Bool))=>(fun (u12:AV)=>(decide (u4<u10)=true->(0<=u4/\u4<u10)/\i+1<=u6*1/\1<=1/\1<=27/\(-9223372036854775808<=p.atoms-1/\p.atoms-1<=9223372036854775807)/\(∀(hp:List AObj) (g:R.σ),true=true/\Does Tryd.prog R 58 [u12,int i64 0,int i64 (p.atoms-1)] hp g (ret (AV.bool u7)) hp g)/\((u7 && !u4==0)=true->2<=2)/\((u7 && !u4==0)=true -> -9223372036854775808<=u4-1/\u4-1<=9223372036854775807)/\((u7 && !u4==0)=true->0<=u4-1/\u4-1<u10)/\((u7 && !u4==0)=true->Int.toNat (u4-1)+1<=u6*1)/\(u2=true->1<=1)/\(u2=true->0<=u1/\u1<(↑24:Int))/\(u2=true->OpOk Tryd.prog R (Oper.mk (some 53) (Op.load 43 (Operand.tmp 52)) 43 "table.go:155" #[Edge.mk 28 Ground.data,Edge.mk 23 Ground.guard] (some (23,true))) (evO [Row.mk (some 52) (some (23,true)) (ref 0 (Int.toNat u1+2)) false u8 [],Row.mk (some 51) (some (23,true)) (ref 0 2) false u8 [],Row.mk (some 50) (some (23,true)) (ref 0 0) false u8 [],Row.mk (some 49) (some (23,true)) u12 false u8 [],Row.mk (some 48) (some (23,true)) (ref 0 0) false u8 [4],Row.mk (some 47) none (AV.bool u2) false u8 [],Row.mk (some 46) none (AV.bool u2) false u8 [],Row.mk (some 45) (some (8,true)) (AV.bool (bif u4==0 then true else decide (u1 > u9))) false u8 [],Row.mk (some 44) u11 (AV.bool (decide (u1 > u9))) false u8 [],Row.mk (some 43) u11 (af s.atoms (Int.toNat (u4-1))) false u8 [2],Row.mk (some 42) u11 (ref 2 (Int.toNat (u4-1))) false u8 [],Row.mk (some 41) u11 (int i64 (u4-1)) false u8 [],Row.mk (some 40) u11 (int i64 u4) false u8 [],Row.mk (some 39) u11 (ow true 2 u6 1) false u8 [3],Row.mk (some 38) u11 (ref 3 1) false u8 [],Row.mk (some 37) u11 (ref 3 0) false u8 [],Row.mk (some 36) u11 u12 false u8 [],Row.mk (some 35) (some (8,true)) (AV.bool (u4==0)) false u8 [],Row.mk (some 34) (some (8,true)) (AV.bool (u4==0)) false u8 [],Row.mk (some 33) (some (8,true)) (int i64 u4) false u8 [],Row.mk (some 32) none (AV.bool u7) false u8 [],Row.mk (some 31) none (AV.bool u7) false u8 [],Row.mk (some 30) none (int i64 (p.atoms-1)) false u8 [],Row.mk (some 29) none (int i64 p.atoms) false u8 [0],Row.mk (some 28) none (ref 0 0) false u8 [],Row.mk (some 27) none (ref 0 0) false u8 [],Row.mk (some 26) none (ref 0 0) false u8 [],Row.mk (some 25) none (ref 0 0) false u8 [4],Row.mk (some 24) none u12 false u8 []] [(2,ref 3 0),(3,ref 4 0),(4,ref 5 0),(5,int i64 u4),(6,u12),(17,ow true 2 u6 1),(18,int i64 u10),(19,int i64 u4)] [(23,true)]) u3 g (int i64 (v (Int.toNat u1))) u3 g)/\(∀(hp:List AObj) (g:R.σ),true=true/\Does Tryd.prog R 140 [AV.bool (bif u2 then v (Int.toNat u1)==3 else false)] hp g (ret (tup 0 (nth []))) hp g)/\Flw Tryd.prog/\1<=1/\(∀(hp:List AObj) (g:R.σ),true=true/\Does Tryd.prog R 79 [u12] hp g (ret (int u64 (↑(2^Int.toNat u1):Int))) hp g)/\1<=1/\(∀(c:Nat),c<1->nth [u5] c=aj (fun (x:Nat)=>int u64 (↑(aJ (List.take i s.atoms)):Int)) 0 1 (fun (x:Nat)=>u5) c)/\(-9223372036854775808<=u4+1/\u4+1<=9223372036854775807)/\Q AEx.normal (St.mk [(2,ref 3 0),(3,ref 4 0),(4,ref 5 0),(17,ow true 2 u6 1),(18,int i64 u10),(19,int i64 (u4+1))] [cells false 27 (ad p v (AV.mp 1)),AObj.map es,cells false (u6*1) fun a=>af s.atoms a,cells false 2 (nth [int i64 s.rule,ow true 2 u6 1]),cells false 1 fun x=>ref 0 0,cells false 1 (nth [u5])] g))/\(decide (u4<u10)=false->Q (AEx.exit 0) (St.mk [(2,ref 3 0),(3,ref 4 0),(4,ref 5 0),(17,ow true 2 u6 1),(18,int i64 u10),(19,int i64 u4),(20,AV.bool (decide (u4<u10)))] u3 g))) (af s.atoms i)) (some (11,false))) ((↑u6:Int))) (List.getD s.atoms (Int.toNat (u4-1)) 0)) (some [])) (decide (0<=u1/\u1<=p.atoms-1))) (List.length s.atoms)) (int u64 (IntKind.wrap u64 (↑(BitVec.toNat (BitVec.ofInt 64 (↑(aJ (List.take i s.atoms)):Int)|||BitVec.ofInt 64 (↑(2^Int.toNat u1):Int))):Int)))) ((↑i:Int))) ([cells false 27 (ad p v (AV.mp 1)),AObj.map es,cells false (List.length s.atoms*1) fun a=>af s.atoms a,cells false 2 (nth [int i64 s.rule,ow true 2 (List.length s.atoms) 1]),cells false 1 fun x=>ref 0 0,cells false 1 fun x=>int u64 (↑(aJ (List.take i s.atoms)):Int)])) (bif decide (0<=u1/\u1<=p.atoms-1) then bif (↑i:Int)==0 then true else decide (u1 > List.getD s.atoms (Int.toNat ((↑i:Int)-1)) 0) else false)) (List.getD s.atoms i 0)) ⟨fun c1=>have c1:(↑i:Int)<(↑(List.length s.atoms):Int):=(of_decide_eq_true c1);⟨omg,omg,omg,omg,omg,(fun _ _=>⟨rfl,(dD _ _ _ _ _ _)⟩),omg,omg,(by intro h;simp at h <;> omega),omg,omg,omg,?_,(fun _ _=>⟨rfl,(dQ _ _ (by assumption) _ _)⟩),krf,omg,(fun _ _=>⟨rfl,(dY _ _ omg _ _)⟩),omg,(fun c hc=>match c,hc with|0,_=>krf ),omg,?_⟩,fun c1=>have c1:¬(↑i:Int)<(↑(List.length s.atoms):Int):=(of_decide_eq_false c1);?_⟩
   ·intro _
    exact dC rfl rfl krf rfl (by show _+1<=27;omega) (dX omg omg)
   ·refine(aU (i+1) (toL (h1:=⟨Af _,Af _,Af _,Af _,Af _,(Ag krf),trivial⟩) (h2:=⟨Ah,rfl,Ah,Ah,Ah,⟨rfl,Nat.le_refl _,fun j hj=>match j,hj with|0,_=>(Ag ?_) ⟩,trivial⟩)) ?_ ?_)
    ·show AV.int .u64 _=AV.int .u64 _
     congr 1
     rw[hx]
     exact Tb.u64_or (bC h2) (bC (Nat.pow_lt_pow_right dcd omg))
    ·refine⟨omg,?_⟩
     rw[hx]
     exact Nat.or_lt_two_pow h2 (Nat.pow_lt_pow_right dcd omg)
    ·omega
   all_goals (exfalso;omega)
  ·have hi':i=s.atoms.length:=by omega
   subst hi'
   rw[List.take_length] at h2 ⊢
   obtain⟨S,hS⟩:∃S,aJ s.atoms=S:=⟨_,rfl⟩
   rw[hS] at h2 hns ⊢
   have hseq:=lf S h2
   obtain⟨l,hle⟩:∃l,ai S=l:=⟨_,rfl⟩
   rw[hle] at hseq
   have hb:decide ((s.atoms.length:Int)<(s.atoms.length:Int))=false:=decide_eq_false omg
   refine vcR [[1,1,1,0,1,0,0,1,0,0]] (lkL [(4,[2,3,4,17,18,19,20])]) (fun _=>[]) (fun Q=>(fun (u1:Int)=>(fun (u2:St R.σ)=>(decide (u1<u1)=true->WpC Tryd.prog R 79 3 139 [1,1,1,0,1,0,0,1,0,0] Q [Kont.seq [1,1,1,0,1,0,0,1,1]] u2)/\(decide (u1<u1)=false->Q (AEx.exit 0) u2)) (St.mk [(2,ref 3 0),(3,ref 4 0),(4,ref 5 0),(17,ow true 2 (List.length s.atoms) 1),(18,int i64 u1),(19,int i64 u1),(20,AV.bool (decide (u1<u1)))] [cells false 27 (ad p v (AV.mp 1)),AObj.map es,cells false (List.length s.atoms*1) fun a=>af s.atoms a,cells false 2 (nth [int i64 s.rule,ow true 2 (List.length s.atoms) 1]),cells false 1 fun x=>ref 0 0,cells false 1 fun x=>int u64 (↑S:Int)] g)) ((↑(List.length s.atoms):Int))) ⟨fun hcc=>(nomatch (hb.symm.trans hcc)),fun _=>?_⟩
   refine⟨_,Ar _,vcR [] (lkL [(9,[3,4,63])]) (lkL [(9,[(1,ROrc.call (fn 105 0 (nth []) 1 (nth [ref (List.length [cells false 27 (ad p v (AV.mp 1)),AObj.map es,cells false (List.length s.atoms*1) fun (a:Nat)=>af s.atoms a,cells false 2 (nth [int i64 s.rule,ow true 2 (List.length s.atoms) 1]),cells false 1 fun (x:Nat)=>ref 0 0,cells false 1 fun (x:Nat)=>int u64 (↑S:Int)]) 0])) ([cells false 27 (ad p v (AV.mp 1)),AObj.map es,cells false (List.length s.atoms*1) fun (a:Nat)=>af s.atoms a,cells false 2 (nth [int i64 s.rule,ow true 2 (List.length s.atoms) 1]),cells false 1 fun (x:Nat)=>ref 0 0,cells false 1 fun (x:Nat)=>int u64 (↑S:Int)]++[cells false 1 fun (x:Nat)=>int u64 (↑S:Int)]) g)])]) (fun Q=>(fun (u1:List AObj)=>1<=1/\(true=true/\Does Tryd.prog R 77 [int u64 (↑S:Int)] [cells false 27 (ad p v (AV.mp 1)),AObj.map es,cells false (List.length s.atoms*1) fun a=>af s.atoms a,cells false 2 (nth [int i64 s.rule,ow true 2 (List.length s.atoms) 1]),cells false 1 fun x=>ref 0 0,cells false 1 fun x=>int u64 (↑S:Int)] g (ret (fn 105 0 (nth []) 1 (nth [ref 6 0]))) u1 g)/\WpC Tryd.prog R 79 3 139 [1,1,1,1,0,1,0] Q [Kont.blk 2,Kont.seq [1,1,1,1,1]] (St.mk [(3,ref 4 0),(4,ref 5 0),(63,fn 105 0 (nth []) 1 (nth [ref 6 0]))] u1 g)) ([cells false 27 (ad p v (AV.mp 1)),AObj.map es,cells false (List.length s.atoms*1) fun a=>af s.atoms a,cells false 2 (nth [int i64 s.rule,ow true 2 (List.length s.atoms) 1]),cells false 1 fun x=>ref 0 0,cells false 1 fun x=>int u64 (↑S:Int),cells false 1 fun x=>int u64 (↑S:Int)])) ⟨omg,⟨rfl,(cQ _ _ _ _)⟩,?_⟩⟩
   have hin:∀k,k<l.length->l.getD k 0<24:=fun k hk=>by
    have h:=bR l 0 hk
    have h':l.getD k 0∈ai S:=by rw[hle];exact h
    exact(Tb.mem_memN.1 h').1
   have hns':∀k,k<l.length->(ofH p.rules.l (l.getD k 0)).any (aZ v S)=false:=fun k hk=>by
    unfold dE at hns
    rw[hle,Bool.not_eq_true'] at hns
    have:=List.any_eq_false.1 hns _ (bR l 0 hk)
    cases h:(ofH p.rules.l (l.getD k 0)).any (aZ v S) with
    |false=>rfl
    |true=>exact absurd h this
   refine iw 63 [64] 6 krf rfl rfl rfl hseq (fun _=>rfl) krf (fun _=>⟨trivial,trivial⟩)
    (fun _=>none) (fun _=>rfl)
    (fun _=>[.cells false 27 (ad p v (.mp 1)),.map es,.cells false (s.atoms.length*1) (af s.atoms),.cells false 2 (nth [.int .i64 s.rule,.ow true 2 s.atoms.length 1]),.cells false 1 (fun _=>.ref 0 0),.cells false 1 (fun _=>.int .u64 S)])
    (fun _=>g) (fx rfl rfl) (fun _=>rfl) (by exact⟨omg,omg,omg,omg,omg,omg,trivial⟩) (by exact⟨fun j _=>aV _ _ 4 _,trivial,fun _ _=>trivial,fun j hj=>(match j,hj with|0,_=>trivial|1,_=>(show 2<6 by omega)),fun _ _=>show 0<6 by omega,fun _ _=>trivial,trivial⟩) (by exact⟨fun _ _=>trivial,trivial⟩) [3,4] (by exact⟨show 4<6 by omega,show 5<6 by omega,trivial⟩) (fun k l' hk hjk=>?_) (fun _=>?_) (fun k hk hj hr=>by cases hr) (fun k id hk hj hr=>by cases hr)
   ·refine vcR [] (lkL [(10,[3,4,7])]) (fun _=>[]) (fun (Q:AEx->St R.σ->Prop)=>Q AEx.normal (St.mk [(3,ref 4 0),(4,ref 5 0),(7,int i64 (↑(List.getD l k 0):Int))] [cells false 27 (ad p v (AV.mp 1)),AObj.map es,cells false (List.length s.atoms*1) fun (a:Nat)=>af s.atoms a,cells false 2 (nth [int i64 s.rule,ow true 2 (List.length s.atoms) 1]),cells false 1 fun (x:Nat)=>ref 0 0,cells false 1 fun (x:Nat)=>int u64 (↑S:Int)] g)) (?_)
    show Wp _ _ _ 6 _ _ _ _ _
    obtain⟨a,ha⟩:∃a,l.getD k 0=a:=⟨_,rfl⟩
    have ha24:a<24:=by rw[<-ha];exact hin k hk
    have hm:(!(ofH p.rules.l a).any (aZ v S))=true:=by rw[<-ha,hns' k hk];rfl
    rw[ha]
    refine vcR [] (lkL [(11,[3,4])]) (lkL [(11,[(3,ROrc.kcall (AV.bool (List.any (ofH p.rules.l (↑a:Int)) (aZ v S)))),(5,ROrc.pcall (tup 0 (nth [])))])]) (fun Q=>(fun (u1:List AObj)=>1<=1/\1<=1/\(true=true/\Does Tryd.prog R 115 [ref 0 0,int i64 (↑a:Int),int u64 (↑S:Int)] u1 g (ret (AV.bool (List.any (ofH p.rules.l (↑a:Int)) (aZ v S)))) u1 g)/\(∀(hp:List AObj) (g:R.σ),true=true/\Does Tryd.prog R 140 [AV.bool !List.any (ofH p.rules.l (↑a:Int)) (aZ v S)] hp g (ret (tup 0 (nth []))) hp g)/\Q AEx.normal (St.mk [(3,ref 4 0),(4,ref 5 0)] u1 g)) ([cells false 27 (ad p v (AV.mp 1)),AObj.map es,cells false (List.length s.atoms*1) fun a=>af s.atoms a,cells false 2 (nth [int i64 s.rule,ow true 2 (List.length s.atoms) 1]),cells false 1 fun x=>ref 0 0,cells false 1 fun x=>int u64 (↑S:Int)])) ⟨omg,omg,⟨rfl,(doT (T:=LT) [0,1] 6 (fun R _ g=>jM R (p) (v) (es) (S) (a) omg omg omg omg omg g))⟩,(fun _ _=>⟨rfl,(dQ _ _ omg _ _)⟩),?_⟩
    refine(eB rfl (a8 trivial rfl rfl))
   ·show Wp _ _ _ 3 _ _ _ _ _
    refine cm (gp 6 omg [3,4] (by exact⟨show 4<6 by omega,show 5<6 by omega,fun j _=>aV _ _ 4 _,fun _ _=>trivial,fun j hj=>(match j,hj with|0,_=>trivial|1,_=>(show 2<6 by omega)),fun _ _=>show 0<6 by omega,fun _ _=>trivial,trivial⟩)) ?_
    refine vcR [] (lkL [(12,[3,72])]) (lkL [(12,[(1,ROrc.call (fn 105 0 (nth []) 1 (nth [ref (List.length [cells false 27 (ad p v (AV.mp 1)),AObj.map es,cells false (List.length s.atoms*1) fun (a:Nat)=>af s.atoms a,cells false 2 (nth [int i64 s.rule,ow true 2 (List.length s.atoms) 1]),cells false 1 fun (x:Nat)=>ref 0 0,cells false 1 fun (x:Nat)=>int u64 (↑S:Int)]) 0])) ([cells false 27 (ad p v (AV.mp 1)),AObj.map es,cells false (List.length s.atoms*1) fun (a:Nat)=>af s.atoms a,cells false 2 (nth [int i64 s.rule,ow true 2 (List.length s.atoms) 1]),cells false 1 fun (x:Nat)=>ref 0 0,cells false 1 fun (x:Nat)=>int u64 (↑S:Int)]++[cells false 1 fun (x:Nat)=>int u64 (↑S:Int)]) g)])]) (fun Q=>(fun (u1:List AObj)=>1<=1/\(true=true/\Does Tryd.prog R 77 [int u64 (↑S:Int)] [cells false 27 (ad p v (AV.mp 1)),AObj.map es,cells false (List.length s.atoms*1) fun a=>af s.atoms a,cells false 2 (nth [int i64 s.rule,ow true 2 (List.length s.atoms) 1]),cells false 1 fun x=>ref 0 0,cells false 1 fun x=>int u64 (↑S:Int)] g (ret (fn 105 0 (nth []) 1 (nth [ref 6 0]))) u1 g)/\WpC Tryd.prog R 79 3 139 [1,1,1,1,1,1,0] Q [Kont.blk 4] (St.mk [(3,ref 4 0),(72,fn 105 0 (nth []) 1 (nth [ref 6 0]))] u1 g)) ([cells false 27 (ad p v (AV.mp 1)),AObj.map es,cells false (List.length s.atoms*1) fun a=>af s.atoms a,cells false 2 (nth [int i64 s.rule,ow true 2 (List.length s.atoms) 1]),cells false 1 fun x=>ref 0 0,cells false 1 fun x=>int u64 (↑S:Int),cells false 1 fun x=>int u64 (↑S:Int)])) ⟨omg,⟨rfl,(cQ _ _ _ _)⟩,?_⟩
    refine iw 72 [73] 6 krf rfl rfl rfl hseq (fun _=>rfl) krf (fun _=>⟨trivial,trivial⟩)
     (fun _=>none) (fun _=>rfl)
     (fun k=>[.cells false 27 (ad p (fun b=>if b∈l.take k then 1 else v b) (.mp 1)),.map es,.cells false (s.atoms.length*1) (af s.atoms),.cells false 2 (nth [.int .i64 s.rule,.ow true 2 s.atoms.length 1]),.cells false 1 (fun _=>.ref 0 0),.cells false 1 (fun _=>.int .u64 S)])
     (fun _=>g) (fx rfl rfl) (fun _=>rfl) (by exact⟨omg,omg,omg,omg,omg,omg,trivial⟩) (by exact⟨fun j _=>aV _ _ 4 _,trivial,fun _ _=>trivial,fun j hj=>(match j,hj with|0,_=>trivial|1,_=>(show 2<6 by omega)),fun _ _=>show 0<6 by omega,fun _ _=>trivial,trivial⟩) (by exact⟨fun _ _=>trivial,trivial⟩) [3] (by exact⟨show 4<6 by omega,trivial⟩) (fun k l' hk hjk=>?_) (fun _=>?_) (fun k hk hj hr=>by cases hr) (fun k id hk hj hr=>by cases hr)
    ·refine vcR [] (lkL [(13,[3,8])]) (fun _=>[]) (fun (Q:AEx->St R.σ->Prop)=>Q AEx.normal (St.mk [(3,ref 4 0),(8,int i64 (↑(List.getD l k 0):Int))] [cells false 27 (ad p (fun (b:Nat)=>if b∈List.take k l then 1 else v b) (AV.mp 1)),AObj.map es,cells false (List.length s.atoms*1) fun (a:Nat)=>af s.atoms a,cells false 2 (nth [int i64 s.rule,ow true 2 (List.length s.atoms) 1]),cells false 1 fun (x:Nat)=>ref 0 0,cells false 1 fun (x:Nat)=>int u64 (↑S:Int)] g)) (?_)
     show Wp _ _ _ 6 _ _ _ _ _
     obtain⟨a,ha⟩:∃a,l.getD k 0=a:=⟨_,rfl⟩
     have ha24:a<24:=by rw[<-ha];exact hin k hk
     rw[ha]
     have ho:aj (ad p (fun b=>if b∈l.take k then 1 else v b) (.mp 1)) (a+2) 1 (fun _=>.int .i64 1)=ad p (fun b=>if b∈l.take (k+1) then 1 else v b) (.mp 1):=by
      funext j
      rw[lp rfl ha24 (fun _=>.int .i64 1) rfl]
      congr 1
      funext b
      unfold cy
      have e:l[k]=a:=by rw[<-ha,List.getD_eq_getElem?_getD,List.getElem?_eq_getElem hk];rfl
      have hmem:b∈l.take (k+1)↔b∈l.take k∨b=a:=by
       rw[List.take_add_one,List.mem_append,List.getElem?_eq_getElem hk,e]
       simp
      by_cases h1:b=a
      ·rw[if_pos h1,if_pos (hmem.2 (.inr h1))]
      ·rw[if_neg h1]
       by_cases h2:b∈l.take k
       ·exact(if_pos h2).trans (if_pos (hmem.2 (.inl h2))).symm
       ·exact(if_neg h2).trans (if_neg (fun h=>(hmem.1 h).elim h2 h1)).symm
     refine vcR [] (lkL []) (fun _=>[]) (fun Q=>1<=1/\(0<=(↑a:Int)/\(↑a:Int)<(↑24:Int))/\a+2+1<=27/\Q AEx.normal (St.mk [] [cells false 27 (aj (ad p (fun (b:Nat)=>if b∈List.take k l then 1 else v b) (AV.mp 1)) (a+2) 1 fun x=>int i64 1),AObj.map es,cells false (List.length s.atoms*1) fun a=>af s.atoms a,cells false 2 (nth [int i64 s.rule,ow true 2 (List.length s.atoms) 1]),cells false 1 fun x=>ref 0 0,cells false 1 fun x=>int u64 (↑S:Int)] g)) ⟨omg,omg,omg,?_⟩
     refine(eB rfl (toL (h2:=⟨(Ap (fun j hj=>?_)),rfl,Ah,Ah,Ah,Ah,trivial⟩)))
     rw[ho]
    ·have he:(fun b=>if b∈l.take l.length then(1:Int) else v b)=bW v S:=by
      funext b
      unfold bW
      rw[List.take_length,<-hle]
      by_cases hb:S.testBit b=true
      ·rw[if_pos hb,if_pos (Tb.mem_memN.2 ⟨f7 h2 hb,hb⟩)]
      ·rw[if_neg hb,if_neg (fun h=>hb (Tb.mem_memN.1 h).2)]
     rw[he]
     refine(av (bZ 3 _ _ rfl trivial omg trivial ⟨(fun _ _=>(by first|exact trivial|apply aV)),(fun _ _=>trivial),trivial⟩ krf rfl rfl) (Af _))
theorem rn {p:Prg}{v:Nat->Int}:∀{l:List Nat} {s:Nat},s<2^24->(∀a,a∈l->a<24/\s.testBit a=true)->dd p v s l=s->∀a,a∈l->(ofH p.rules.l (a:Int)).any (aZ v s)=false
 |[],_,_,_,_,_,h=>by cases h
 |a::l,s,hs,hl,he,b,hb=>by
  have he:dd p v (if (ofH p.rules.l (a:Int)).any (aZ v s) then clr s a else s) l=s:=he
  cases hg:(ofH p.rules.l (a:Int)).any (aZ v s) with
  |true=>
   exfalso
   rw[if_pos hg] at he
   have h1:=iE (a:=a) hs
   have h2:=fH (p:=p) (v:=v) (l:=l) (Nat.lt_of_le_of_lt h1 hs)
   have h3:clr s a=s:=by omega
   have h4:=nM hs (hl a List.mem_cons_self).1 a
   rw[h3,(hl a List.mem_cons_self).2] at h4
   simp at h4
  |false=>
   rw[if_neg (by rw[hg];decide)] at he
   rcases List.mem_cons.1 hb with rfl|hb
   ·exact hg
   ·exact rn hs (fun a ha=>hl a (List.mem_cons_of_mem _ ha)) he b hb
theorem ro {p:Prg}{v:Nat->Int}:∀{n s:Nat},s<2^24->s<n->bO p v (dZ p v n s)=dZ p v n s/\dZ p v n s<=s
 |0,s,_,h=>by omega
 |n+1,s,hs,h=>by
  show bO p v (if bO p v s=s then s else _)=(if bO p v s=s then s else _)/\(if bO p v s=s then s else _)<=s
  have hle:bO p v s<=s:=fH hs
  by_cases he:bO p v s=s
  ·rw[if_pos he];exact⟨he,Nat.le_refl _⟩
  ·rw[if_neg he]
   have ih:=ro (p:=p) (v:=v) (n:=n) (s:=bO p v s) omg omg
   exact⟨ih.1,Nat.le_trans ih.2 hle⟩
def er (s t:Nat):Prop:=∀j,s.testBit j=true->t.testBit j=true
theorem xz {s a:Nat}(hs:s<2^24)(ha:a<24):er (clr s a) s:=fun j h=>by
 rw[nM hs ha,Bool.and_eq_true] at h
 exact h.1
theorem nO {p:Prg}{v:Nat->Int}:∀{l:List Nat} {s:Nat},s<2^24->(∀a,a∈l->a<24)->er (dd p v s l) s
 |[],_,_,_=>fun _ h=>h
 |a::l,s,hs,hl=>by
  show er (dd p v (if (ofH p.rules.l (a:Int)).any (aZ v s) then clr s a else s) l) s
  split
  ·exact fun j h=>xz hs (hl a List.mem_cons_self) j (nO (Nat.lt_of_le_of_lt (iE hs) hs) (fun b hb=>hl b (List.mem_cons_of_mem _ hb)) j h)
  ·exact nO hs (fun b hb=>hl b (List.mem_cons_of_mem _ hb))
theorem iF {s a:Nat}(h:a∈ai s):a<24:=(Tb.mem_memN.1 h).1
theorem rp {p:Prg}{v:Nat->Int}:∀{n s:Nat},s<2^24->er (dZ p v n s) s
 |0,_,_=>fun _ h=>h
 |n+1,s,hs=>by
  show er (if bO p v s=s then s else dZ p v n (bO p v s)) s
  split
  ·exact fun _ h=>h
  ·exact fun j h=>nO hs (fun a ha=>iF ha) j (rp (Nat.lt_of_le_of_lt (fH hs) hs) j h)
theorem jQ (v:Nat->Int)(x:Int)(n j:Nat):(aE v x n).testBit j=(decide (j<n)&&decide (v j=x)):=by
 induction n with
 |zero=>simp[aE]
 |succ n ih=>
  rw[iB]
  by_cases h:v n=x
  ·rw[if_pos h,Nat.testBit_or,ih,Nat.testBit_two_pow,Bool.eq_iff_iff]
   simp only[Bool.or_eq_true,Bool.and_eq_true,decide_eq_true_eq]
   constructor
   ·rintro (⟨h1,h2⟩|h1)
    ·exact⟨omg,h2⟩
    ·subst h1;exact⟨omg,h⟩
   ·rintro ⟨h1,h2⟩
    rcases Nat.lt_or_ge j n with h3|h3
    ·exact .inl ⟨h3,h2⟩
    ·exact .inr omg
  ·rw[if_neg h,ih,Bool.eq_iff_iff]
   simp only[Bool.and_eq_true,decide_eq_true_eq]
   constructor
   ·rintro ⟨h1,h2⟩;exact⟨omg,h2⟩
   ·rintro ⟨h1,h2⟩
    refine⟨?_,h2⟩
    rcases Nat.lt_or_ge j n with h3|h3
    ·exact h3
    ·exact absurd (by rw[show n=j by omega];exact h2) h
theorem iG {v:Nat->Int}{x:Int}{n:Nat}(h:n<=24):aE v x n<2^24:=Nat.lt_of_lt_of_le (ll v x n) (Nat.pow_le_pow_right dcd h)
def ce (p:Prg):Prop:=1<=p.atoms/\p.atoms<=24
theorem iH {p:Prg}(v:Nat->Int)(hp:ce p):bO p v (gre p v)=gre p v/\er (gre p v) (aE v 3 p.atoms.toNat)/\gre p v<2^24:=by
 have hp:=hp.2
 have hs:aE v 3 p.atoms.toNat<2^24:=iG omg
 have h:=ro (p:=p) (v:=v) (n:=2^24+1) hs omg
 exact⟨h.1,rp hs,Nat.lt_of_le_of_lt h.2 hs⟩
theorem rq {p:Prg}(v:Nat->Int)(hp:ce p):dE p v (gre p v)=true:=by
 obtain⟨h1,h2,h3⟩:=iH v hp
 unfold dE
 rw[Bool.not_eq_true',List.any_eq_false]
 intro a ha
 have:=rn h3 (fun a ha=>Tb.mem_memN.1 ha) h1 a ha
 rw[this]
 decide
theorem rr (l:List Int)(j:Nat):(aJ l).testBit j=l.any (fun a=>a.toNat==j):=by
 have key:∀(l:List Int) (s:Nat),(l.foldl (fun s a=>s|||2^a.toNat) s).testBit j=(s.testBit j||l.any (fun a=>a.toNat==j)):=by
  intro l
  induction l with
  |nil=>intro s;simp
  |cons a l ih=>
   intro s
   rw[List.foldl_cons,ih,Nat.testBit_or,Nat.testBit_two_pow,List.any_cons,Bool.or_assoc]
   rfl
 unfold aJ
 rw[key]
 simp
theorem nP {s:Nat}{a:Int}:a∈bv s↔0<=a/\a<24/\s.testBit a.toNat=true:=by
 unfold bv
 rw[List.mem_map]
 constructor
 ·rintro ⟨n,hn,rfl⟩
  have:=Tb.mem_memN.1 hn
  exact⟨omg,omg,by simpa using this.2⟩
 ·rintro ⟨h1,h2,h3⟩
  exact⟨a.toNat,Tb.mem_memN.2 ⟨omg,h3⟩,omg⟩
theorem nQ {s:Nat}(hs:s<2^24):aJ (bv s)=s:=by
 refine Nat.eq_of_testBit_eq fun j=>?_
 rw[rr,Bool.eq_iff_iff,List.any_eq_true]
 constructor
 ·rintro ⟨a,ha,hj⟩
  have:=nP.1 ha
  rw[beq_iff_eq] at hj
  rw[<-hj]
  exact this.2.2
 ·intro h
  have hj:=f7 hs h
  exact⟨(j:Int),nP.2 ⟨omg,omg,by simpa using h⟩,by simp⟩
theorem xA {s i j:Nat}(hij:i<j)(hj:j<(ai s).length):(ai s).getD i 0<(ai s).getD j 0:=by
 have hp:(ai s).Pairwise (·<·):=(List.pairwise_lt_range (n:=24)).sublist List.filter_sublist
 rw[List.pairwise_iff_getElem] at hp
 have:=hp i j omg hj hij
 rw[List.getD_eq_getElem?_getD,List.getD_eq_getElem?_getD,List.getElem?_eq_getElem hj,List.getElem?_eq_getElem (by omega:i<(ai s).length)]
 exact this
theorem xB {p:Prg}{v:Nat->Int}{s:Nat}(hp:ce p)(h0:s≠0)(hs:s<2^24)(h:er s (aE v 3 p.atoms.toNat)):db p v (bv s)=true:=by
 unfold db
 rw[Bool.and_eq_true,List.all_eq_true]
 constructor
 ·rw[decide_eq_true_eq,gI]
  rcases Nat.eq_zero_or_pos (ai s).length with h|h
  ·exact absurd (Tb.zero_of_mem hs (List.length_eq_zero_iff.1 h)) h0
  ·exact h
 ·intro i hi
  have hi:=List.mem_range.1 hi
  rw[gI] at hi
  have hm:=Tb.mem_memN.1 (show(ai s).getD i 0∈ai s from bR _ 0 hi)
  have hb:=h _ hm.2
  rw[jQ,Bool.and_eq_true,decide_eq_true_eq,decide_eq_true_eq] at hb
  have hpos:ep p (bv s) i=true:=by
   unfold ep
   rw[jP]
   rw[decide_eq_true omg]
   show(bif (i:Int)==0 then true else _)=true
   cases hz:((i:Int)==0) with
   |true=>rfl
   |false=>
    have hz:(i:Int)≠0:=by simpa using hz
    show decide _=true
    rw[decide_eq_true_eq,jP]
    have:=xA (s:=s) (i:=i-1) (j:=i) omg hi
    rw[show((i:Int)-1).toNat=i-1 by omega]
    omega
  unfold eG
  rw[hpos,jP]
  show(v _==3)=true
  rw[beq_iff_eq]
  simpa using hb.2
def bI (v:Nat->Int)(s:Stp):Nat->Int:=if s.rule = -1 then bW v (aJ s.atoms) else cy v (s.atoms.getD 0 0).toNat 2
theorem gJ {U:Type}(q:U->Bool)(d:U):∀(l:List U) (i:Nat),0<=aD q l i->∃k,k<l.length/\aD q l i=(i+k:Nat)/\q (l.getD k d)=true/\∀j,j<k->q (l.getD j d)=false
 |[],_,h=>by exact absurd h (by show ¬(0:Int) <= -1;omega)
 |x::r,i,h=>by
  unfold aD at h ⊢
  cases hq:q x with
  |true=>exact⟨0,by simp,by simp,by simpa using hq,fun j hj=>absurd hj omg⟩
  |false=>
   rw[hq] at h
   obtain⟨k,h1,h2,h3,h4⟩:=gJ q d r (i+1) (by simpa using h)
   refine⟨k+1,by simp;omega,?_,by simpa using h3,fun j hj=>?_⟩
   ·simp only[Bool.false_eq_true,if_false]
    rw[h2];congr 1;omega
   ·cases j with
    |zero=>simpa using hq
    |succ j=>simpa using h4 j omg
theorem lA {U:Type}(q:U->Bool):∀(l:List U) (i:Nat),¬0<=aD q l i->aD q l i = -1/\∀x,x∈l->q x=false
 |[],_,_=>⟨rfl,fun x h=>by cases h⟩
 |x::r,i,h=>by
  unfold aD at h ⊢
  cases hq:q x with
  |true=>rw[hq] at h;exact absurd (by simp) h
  |false=>
   rw[hq] at h
   have:=lA q r (i+1) (by simpa using h)
   refine⟨by simpa using this.1,fun y hy=>?_⟩
   rcases List.mem_cons.1 hy with rfl|hy
   ·exact hq
   ·exact this.2 y hy
theorem rt {p:Prg}{v:Nat->Int}(hr:∀r,r∈p.rules.l->aI r)(h:0<=bk p v):cR p v (eH (am p v))=true/\bI v (am p v)=eF p v (eH (am p v))/\0<=(am p v).rule/\aX p v=true:=by
 obtain⟨k,h1,h2,h3,_⟩:=gJ (dc v) default p.rules.l 0 h
 have hf:bk p v=k:=by unfold bk;rw[h2];simp
 have hn:am p v=⟨bk p v,[(p.rules.l.getD (bk p v).toNat default).head]⟩:=if_pos h
 have hk:(bk p v).toNat=k:=by omega
 unfold dc at h3
 rw[Bool.and_eq_true] at h3
 refine⟨?_,?_,?_,?_⟩
 ·rw[hn]
  unfold cR eH
  simp only[Bool.and_eq_true,beq_iff_eq,decide_eq_true_eq]
  rw[hk]
  exact⟨omg,rfl,rfl,by simpa using h3.1,h3.2⟩
 ·rw[hn]
  unfold bI
  rw[if_neg (by show ¬bk p v = -1;omega)]
  rfl
 ·rw[hn];exact h
 ·unfold aX
  rw[decide_eq_true h];rfl
theorem lB {p:Prg}{v:Nat->Int}(hp:ce p)(h:¬0<=bk p v)(hb:aX p v=true):am p v=⟨-1,bv (gre p v)⟩/\db p v (am p v).atoms=true/\dE p v (aJ (am p v).atoms)=true/\bI v (am p v)=bW v (aJ (am p v).atoms)/\gre p v≠0:=by
 have hn:am p v=⟨-1,bv (gre p v)⟩:=if_neg h
 have h0:gre p v≠0:=by
  unfold aX at hb
  rw[decide_eq_false h] at hb
  simpa using hb
 obtain⟨g1,g2,g3⟩:=iH v hp
 refine⟨hn,?_,?_,?_,h0⟩
 ·rw[hn];exact xB hp h0 g3 g2
 ·rw[hn]
  show dE p v (aJ (bv (gre p v)))=true
  rw[nQ g3]
  exact rq v hp
 ·unfold bI
  rw[if_pos (by rw[hn])]
theorem xC {p:Prg}{v:Nat->Int}(hb:aX p v=false):¬0<=bk p v/\gre p v=0:=by
 unfold aX at hb
 rw[Bool.or_eq_false_iff,decide_eq_false_iff_not] at hb
 exact⟨hb.1,by simpa using hb.2⟩
def cz (p:Prg)(v:Nat->Int):Nat:=((List.range p.atoms.toNat).filter (fun a=>v a==3)).length
theorem nR {U:Type}{q q':U->Bool}:∀{l:List U},(∀a,a∈l->q' a=true->q a=true)->(l.filter q').length<=(l.filter q).length
 |[],_=>Nat.le_refl _
 |y::l,hsub=>by
  have ih:=nR (q:=q) (q':=q') (l:=l) (fun a ha=>hsub a (List.mem_cons_of_mem _ ha))
  rw[List.filter_cons,List.filter_cons]
  cases hy':q' y with
  |true=>rw[hsub y (by simp) hy'];simpa using ih
  |false=>cases q y <;> simp <;> omega
theorem jS {U:Type}{q q':U->Bool}:∀{l:List U},(∀a,a∈l->q' a=true->q a=true)->(∃a,a∈l/\q a=true/\q' a=false)->(l.filter q').length<(l.filter q).length
 |[],_,⟨a,h,_⟩=>by cases h
 |x::l,hsub,⟨a,ha,h1,h2⟩=>by
  have hle:(l.filter q').length<=(l.filter q).length:=nR (fun a ha=>hsub a (List.mem_cons_of_mem _ ha))
  rw[List.filter_cons,List.filter_cons]
  rcases List.mem_cons.1 ha with rfl|ha
  ·rw[h1,h2];simp;omega
  ·have ih:=jS (q:=q) (q':=q') (l:=l) (fun a ha=>hsub a (List.mem_cons_of_mem _ ha)) ⟨a,ha,h1,h2⟩
   cases hx':q' x with
   |true=>rw[hsub x (by simp) hx'];simpa using ih
   |false=>cases q x <;> simp <;> omega
theorem xD {p:Prg}{v w:Nat->Int}(hsub:∀a,w a=3->v a=3)(h:∃a:Nat,(a:Int)<p.atoms/\v a=3/\w a≠3):cz p w<cz p v:=by
 obtain⟨a,h1,h2,h3⟩:=h
 refine jS (fun b _ hb=>?_) ⟨a,List.mem_range.2 omg,by simpa using h2,by simpa using h3⟩
 have:w b=3:=by simpa using hb
 simpa using hsub b this
theorem lC (p:Prg)(v:Nat->Int):cz p v<=p.atoms.toNat:=by
 unfold cz
 exact Nat.le_trans (List.length_filter_le _ _) (by rw[List.length_range];exact Nat.le_refl _)
def dt (p:Prg):Prop:=∀r,r∈p.rules.l->r.head<p.atoms
theorem ru {p:Prg}{v:Nat->Int}(hp:ce p)(hr:∀r,r∈p.rules.l->aI r)(hh:dt p)(hb:aX p v=true):(∀a,bI v (am p v) a=3->v a=3)/\∃a:Nat,(a:Int)<p.atoms/\v a=3/\bI v (am p v) a≠3:=by
 by_cases h:0<=bk p v
 ·obtain⟨h1,h2,_,_⟩:=rt hr h
  unfold cR at h1
  simp only[Bool.and_eq_true,beq_iff_eq,decide_eq_true_eq] at h1
  obtain⟨k1,k2,k3,k4,k5⟩:=h1
  have hm:=bR p.rules.l default (show(eH (am p v)).rule.toNat<p.rules.l.length by omega)
  have h3:=(hr _ hm).2
  have h4:=hh _ hm
  rw[h2]
  unfold eF cy
  refine⟨fun a ha=>?_,(p.rules.l.getD (eH (am p v)).rule.toNat default).head.toNat,omg,k4,?_⟩
  ·split at ha
   ·cases ha
   ·exact ha
  ·rw[if_pos rfl];decide
 ·obtain⟨h1,h2,h3,h4,h5⟩:=lB hp h hb
  obtain⟨g1,g2,g3⟩:=iH v hp
  rw[h4,h1]
  show(∀a,bW v (aJ (bv (gre p v))) a=3->_)/\_
  rw[nQ g3]
  unfold bW
  refine⟨fun a ha=>?_,?_⟩
  ·split at ha
   ·cases ha
   ·exact ha
  ·obtain⟨a,ha⟩:∃a,(gre p v).testBit a=true:=by
    obtain⟨k,m,h⟩:=Tb.low_of (show 0<gre p v by omega)
    exact⟨k,by rw[Tb.low_bit h];simp⟩
   have:=g2 a ha
   rw[jQ,Bool.and_eq_true,decide_eq_true_eq,decide_eq_true_eq] at this
   refine⟨a,by have:=this.1;omega,this.2,?_⟩
   rw[if_pos ha];decide
theorem lE {p:Prg}{v:Nat->Int}(hp:ce p)(hr:∀r,r∈p.rules.l->aI r)(hh:dt p)(hb:aX p v=true):cz p (bI v (am p v))<cz p v:=
 let ⟨h1,h2⟩:=ru hp hr hh hb
 xD h1 h2
theorem rx {p:Prg}{v:Nat->Int}(hp:ce p)(hr:∀r,r∈p.rules.l->aI r)(hh:dt p):(∀a,a∈(am p v).atoms->0<=a/\a<p.atoms)/\(am p v).atoms.length<=24:=by
 by_cases h:0<=bk p v
 ·obtain⟨k,h1,h2,_,_⟩:=gJ (dc v) default p.rules.l 0 h
  have hn:am p v=⟨bk p v,[(p.rules.l.getD (bk p v).toNat default).head]⟩:=if_pos h
  have hf:(bk p v).toNat=k:=by unfold bk;rw[h2];simp
  have hm:=bR p.rules.l default h1
  rw[hn,hf]
  refine⟨fun a ha=>?_,by simp⟩
  have:a=(p.rules.l.getD k default).head:=by simpa using ha
  rw[this]
  exact⟨(hr _ hm).2.1,hh _ hm⟩
 ·have hn:am p v=⟨-1,bv (gre p v)⟩:=if_neg h
  obtain⟨g1,g2,g3⟩:=iH v hp
  rw[hn]
  refine⟨fun a ha=>?_,?_⟩
  ·obtain⟨m1,m2,m3⟩:=nP.1 ha
   have:=g2 _ m3
   rw[jQ,Bool.and_eq_true,decide_eq_true_eq] at this
   have:=this.1
   omega
  ·show(bv _).length<=24
   rw[gI]
   exact gH _
def du (p:Prg):Nat->(Nat->Int)->List Stp->List Stp × (Nat->Int)
 |0,v,l=>(l,v)
 |n+1,v,l=>if aX p v then du p n (bI v (am p v)) (l++[am p v]) else(l,v)
def al (p:Prg):List Stp × (Nat->Int):=du p 25 (fun _=>3) []
theorem ry {p:Prg}(hp:ce p)(hr:∀r,r∈p.rules.l->aI r)(hh:dt p):∀(n:Nat) (v:Nat->Int) (l:List Stp),cz p (du p n v l).2+(du p n v l).1.length<=cz p v+l.length
 |0,_,_=>Nat.le_refl _
 |n+1,v,l=>by
  show cz p (if aX p v then du p n (bI v (am p v)) (l++[am p v]) else(l,v)).2+(if aX p v then du p n (bI v (am p v)) (l++[am p v]) else(l,v)).1.length<=_
  by_cases hb:aX p v=true
  ·rw[if_pos hb]
   have h1:=ry hp hr hh n (bI v (am p v)) (l++[am p v])
   have h2:=lE hp hr hh hb
   rw[List.length_append,List.length_singleton] at h1
   omega
  ·rw[if_neg hb]
   exact Nat.le_refl _
theorem nS {p:Prg}(hp:ce p)(hr:∀r,r∈p.rules.l->aI r)(hh:dt p):(al p).1.length<=24:=by
 have h:=ry hp hr hh 25 (fun _=>3) []
 have h2:=lC p (fun _=>3)
 have h3:=hp.2
 have h4:(al p).1.length<=cz p (fun _=>3):=by
  show(du p 25 (fun _=>3) []).1.length<=_
  simp only[List.length_nil] at h
  omega
 omega
end Go.Avm.Pack
