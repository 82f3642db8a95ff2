/- Part 4 of the proof: lemmas. -/
import Derived.Test.YtbdagmhndndliaaDoorM3
namespace Go.Avm.Pack
open Go Go.Avm Go.Proofs
open Go.IntKind (i64 u64)
open Go.Avm.AV (int bool any fz fp sl ow ref fn ifc val agg tup)
open Go.Avm.AObj (cells dead)
open Go.Avm.Oc (ret)
set_option maxRecDepth 4000
def eO (s:Stp):Step:=⟨s.rule,s.atoms,.opn⟩
theorem yP (R:Res)(p:Prg)(v:Nat->Int)(es:List (Value × AV))(s:Stp)(hl:p.rules.l.length<1000000)(hr:∀r,r∈p.rules.l->aE r)(h:dc p v (eO s)=true)(g:R.σ):Does Tryd.prog R 141 [.agg 2 (nth [.int .i64 s.rule,.ow true 2 s.atoms.length 1]),.ref 0 0] [cO 27 (ae p v (.mp 1)),.map es,cO (s.atoms.length*1) (af s.atoms)] g (.ret (.tup 0 (nth []))) [cO 27 (ae p (fS p v (eO s)) (.mp 1)),.map es,cO (s.atoms.length*1) (af s.atoms)] g:=by
 unfold dc at h
 simp only[Bool.and_eq_true,beq_iff_eq,decide_eq_true_eq] at h
 obtain⟨hA,hB,hC,hD,hE⟩:=h
 have hA:0<=s.rule/\s.rule<=(p.rules.l.length:Int)-1:=hA
 have hB:s.atoms.length=1:=hB
 have hC:s.atoms.getD 0 0=(p.rules.l.getD s.rule.toNat default).head:=hC
 have hD:v (p.rules.l.getD s.rule.toNat default).head.toNat=3:=hD
 have hE:co v (p.rules.l.getD s.rule.toNat default)=true:=hE
 have hq:=hr _ (fl (show s.rule.toNat<p.rules.l.length by omega))
 have q1:=hq.1
 have q2:=hq.2
 have ho:∀j,al (ae p v (.mp 1)) ((p.rules.l.getD s.rule.toNat default).head.toNat+2) 1 (fun _=>.int .i64 2) j=ae p (cM v (p.rules.l.getD s.rule.toNat default).head.toNat 2) (.mp 1) j:=fun j=>lJ rfl omg (fun _=>.int .i64 2) rfl
 refine spW (nt:=66) (rs:=[]) (k0:=3) ?_
 refine vcR [] (lkL [(0,[1,2]),(1,[1,2]),(2,[1,2,4]),(3,[1,4])]) (lkL [(1,[(10,ROrc.pcall (AV.bool (decide (0<=s.rule/\s.rule<=(p.rules.l.length:Int)-1)))),(18,ROrc.pcall (tup 0 (nth [])))]),(2,[(11,ROrc.val (Orc.obj (nth [i6 (p.rules.l.getD (s.rule.toNat) default).head,am (p.rules.l.getD (s.rule.toNat) default).body])))]),(3,[(15,ROrc.kop (i6 (v ((p.rules.l.getD (s.rule.toNat) default).head.toNat)))),(23,ROrc.kcall (AV.bool true)),(25,ROrc.pcall (tup 0 (nth [])))])]) (fun Q=>(fun (u1:Rule)=>(fun (u2:List AObj)=>(fun (u3:Int)=>(fun (u4:Bool)=>(fun (u5:Bool)=>(fun (u6:List AObj)=>(fun (u7:Bool)=>(fun (u8:Bool)=>(fun (u9:Option (List Nat))=>(fun (u10:Option (Nat × Bool))=>(fun (u11:Nat)=>u5=true/\1<=2/\2<=27/\(-9223372036854775808<=u3/\u3<=9223372036854775807)/\(∀(hp:List AObj) (g:R.σ),true=true/\Does Tryd.prog R 58 [i6 s.rule,i6 0,i6 u3] hp g (ret (AV.bool u8)) hp g)/\(u8=true->2<=2)/\(∀(hp:List AObj) (g:R.σ),true=true/\Does Tryd.prog R 140 [AV.bool (bif u8 then(u11:Int)==1 else false)] hp g (ret (tup 0 (nth []))) hp g)/\u5=true/\2<=27/\1<=2/\(0<=s.rule/\s.rule<(p.rules.l.length:Int))/\2<=2/\2<=2/\(∀(c:Nat),c<2->nth [i6 u1.head,am u1.body] c=al (nth [i6 0,fz Fz.nil 0 0 fun x x_1=>any]) 0 2 (List.brecOn (motive:=fun (x:List AV)=>Nat->AV) [i6 u1.head,am u1.body] nth._f) c)/\u5=true/\2<=2/\((↑0:Int)<=0/\0<(u11:Int))/\1<=u11*1/\1<=2/\(u4=true->1<=2)/\(u4=true->0<=u1.head/\u1.head<(↑24:Int))/\(u4=true->OpOk Tryd.prog R (Oper.mk (some 49) (Op.load 43 (Operand.tmp 48)) 43 "table.go:147" #[Edge.mk 14 Ground.data,Edge.mk 8 Ground.guard] u10) (evO [Row.mk (some 48) u10 (ref 0 (u1.head.toNat+2)) false u9 [],Row.mk (some 47) u10 (ref 0 2) false u9 [],Row.mk (some 46) u10 (ref 0 0) false u9 [],Row.mk (some 45) u10 (i6 u1.head) false u9 [4],Row.mk (some 44) u10 (ref 4 0) false u9 [],Row.mk (some 43) u10 (ref 0 0) false u9 [],Row.mk (some 42) none (AV.bool u4) false u9 [],Row.mk (some 41) none (AV.bool u4) false u9 [],Row.mk (some 40) none (i6 u1.head) false u9 [4],Row.mk (some 39) none (ref 4 0) false u9 [],Row.mk (some 38) none (af s.atoms 0) false u9 [2],Row.mk (some 37) none (ref 2 0) false u9 [],Row.mk (some 36) none (ow true 2 u11 1) false u9 [3],Row.mk (some 35) none (ref 3 1) false u9 [],Row.mk (some 34) none (ref 3 0) false u9 []] [(1,ref 0 0),(2,ref 3 0),(4,ref 4 0)] [(8,true)]) u6 g (i6 (v (u1.head.toNat))) u6 g)/\(u7=true->2<=2)/\(u7=true->true=true/\Does Tryd.prog R 114 [ref 0 2,bU u1] u6 g (ret (AV.bool true)) u6 g)/\(∀(hp:List AObj) (g:R.σ),true=true/\Does Tryd.prog R 140 [AV.bool (bif u7 then true else false)] hp g (ret (tup 0 (nth []))) hp g)/\u5=true/\1<=2/\(0<=u1.head/\u1.head<(↑24:Int))/\u1.head.toNat+2+1<=27/\Q AEx.normal (St.mk [] (cO 27 (al (ae p v (AV.mp 1)) (u1.head.toNat+2) 1 fun x=>i6 2)::u2) g)) (s.atoms.length)) (some (8,true))) (some [])) (decide (0<=s.rule/\s.rule<=u3))) (bif u4 then v (u1.head.toNat)==3 else false)) (cO 27 (ae p v (AV.mp 1))::u2)) (Tables.follows Tryd.prog.toTables Departure.mixedOrders)) (s.atoms.getD 0 0==u1.head)) ((p.rules.l.length:Int)-1)) ([AObj.map es,cO (s.atoms.length*1) fun a=>af s.atoms a,cO 2 (nth [i6 s.rule,ow true 2 (s.atoms.length) 1]),cO 2 (nth [i6 u1.head,am u1.body])])) (p.rules.l.getD (s.rule.toNat) default)) ⟨krf,omg,omg,omg,(fun _ _=>⟨rfl,(dG _ _ _ _ _ _)⟩),omg,(fun _ _=>⟨rfl,(dT _ _ (by simp at * <;> omega) _ _)⟩),krf,omg,omg,omg,omg,omg,(fun c hc=>match c,hc with|0,_=>krf|1,_=>krf ),krf,omg,omg,omg,omg,omg,omg,?_,omg,(fun hgd=>⟨rfl,(jM hE (doS [0,1] 5 (fun R g=>lF R (p) (v) (es) (p.rules.l.getD (s.rule.toNat) default) omg g)))⟩),(fun _ _=>⟨rfl,(dT _ _ (by simp at * <;> omega) _ _)⟩),krf,omg,omg,omg,?_⟩
 ·intro _
  exact d6 rfl rfl krf rfl (by show _+1<=27;omega) (d8 omg omg)
 ·refine(aq (bS 3 _ _ rfl trivial omg trivial ⟨(fun _ _=>?_),(fun _ _=>trivial),trivial⟩ ?_ rfl rfl) (Bs _))
  ·rw[ho];exact aW _ _ 1 _
  ·show [cO 27 (al (ae p v (.mp 1)) ((p.rules.l.getD s.rule.toNat default).head.toNat+2) 1 (fun _=>.int .i64 2)),AObj.map es,_]=_
   rw[show al (ae p v (.mp 1)) ((p.rules.l.getD s.rule.toNat default).head.toNat+2) 1 (fun _=>.int .i64 2)=ae p (cM v (p.rules.l.getD s.rule.toNat default).head.toNat 2) (.mp 1) from funext ho]
   rfl
theorem yQ (R:Res)[Tab LT R](p:Prg)(v:Nat->Int)(es:List (Value × AV))(s:Stp)(hl:p.rules.l.length<1000000)(hr:∀r,r∈p.rules.l->aE r)(hes:HeadsOk es p.rules.l)(hp:1<=p.atoms/\p.atoms<=24)(hsl:s.atoms.length<1000000)(h1':dd p v s.atoms=true)(hns:dH p v (aV s.atoms)=true)(g:R.σ):Does Tryd.prog R 139 [.agg 2 (nth [.int .i64 s.rule,.ow true 2 s.atoms.length 1]),.ref 0 0] [cO 27 (ae p v (.mp 1)),.map es,cO (s.atoms.length*1) (af s.atoms)] g (.ret (.tup 0 (nth []))) [cO 27 (ae p (cc v (aV s.atoms)) (.mp 1)),.map es,cO (s.atoms.length*1) (af s.atoms)] g:=by
 unfold dd at h1'
 rw[Bool.and_eq_true] at h1'
 obtain⟨h0,hall⟩:=h1'
 have h0:0<s.atoms.length:=of_decide_eq_true h0
 have hck:∀i,i<s.atoms.length->fT p v s.atoms i=true:=fun i hi=>(List.all_eq_true.1 hall) i (List.mem_range.2 hi)
 have hpos:((s.atoms.length:Nat):Int) > 0:=by omega
 refine spW (nt:=79) (rs:=[]) (k0:=3) ?_
 refine vcR [] (lkL [(0,[2,3]),(1,[2,3]),(2,[2,3,4]),(3,[2,3,4,17,18,19])]) (lkL [(1,[(5,ROrc.pcall (tup 0 (nth [])))])]) (fun Q=>(fun (u1:Nat)=>2<=2/\(∀(hp:List AObj) (g:R.σ),true=true/\Does Tryd.prog R 140 [AV.bool (decide ((↑u1:Int) > 0))] hp g (ret (tup 0 (nth []))) hp g)/\2<=2/\WpC Tryd.prog R 79 3 139 [1,1,1,0,1,0] Q [Kont.blk 0,Kont.seq [1,1,1,1]] (St.mk [(2,ref 3 0),(3,ref 4 0),(4,ref 5 0),(17,ow true 2 u1 1),(18,i6 (↑u1:Int)),(19,i6 0)] [cO 27 (ae p v (AV.mp 1)),AObj.map es,cO (u1*1) fun a=>af s.atoms a,cO 2 (nth [i6 s.rule,ow true 2 u1 1]),cO 1 fun a=>ref 0 0,cO 1 fun a=>int u64 0] g)) (List.length s.atoms)) ⟨omg,(fun _ _=>⟨rfl,(dT _ _ (by simp at * <;> omega) _ _)⟩),omg,?_⟩
 refine(a9 krf (fun (i:Nat)=>⟨[(2,ref 3 0),(3,ref 4 0),(4,ref 5 0),(17,ow true 2 (s.atoms.length) 1),(18,i6 (s.atoms.length:Int)),(19,.int .i64 i)],[cO 27 (ae p v (.mp 1)),.map es,cO (s.atoms.length*1) (af s.atoms),cO 2 (nth [.int .i64 s.rule,.ow true 2 s.atoms.length 1]),cO 1 (fun _=>.ref 0 0),cO 1 (fun _=>.int .u64 (aV (s.atoms.take i)))],g⟩) (fun (i:Nat)=>(i<=s.atoms.length/\aV (s.atoms.take i)<2^24)) (fun (i:Nat)=>(s.atoms.length-i)) 0 (toL (h1:=⟨Bs _,Bs _,Bs _,Bs _,Bs _,(Bt krf),trivial⟩)) ?_ (fun i hi=>?_))
 ·exact⟨Nat.zero_le _,(by decide:(0:Nat)<2^24)⟩
 ·obtain⟨h1,h2⟩:=hi
  rcases Nat.lt_or_ge i s.atoms.length with hlt|hge
  ·have hx:=og hlt
   have hm:=hck i hlt
   have hm':(bif eN p s.atoms i then v (s.atoms.getD i 0).toNat==3 else false)=true:=hm
   have hA:=lK (oe hm)
   refine vcR [] (lkL [(4,[2,3,4,17,18,19,20]),(5,[2,3,4,5,6,17,18,19]),(6,[2,3,4,6,17,18,19]),(7,[2,3,4,17,18,19]),(8,[2,3,4,17,18,19])]) (lkL [(6,[(7,ROrc.pcall (AV.bool (decide (0<=List.getD s.atoms i 0/\List.getD s.atoms i 0<=p.atoms-1)))),(29,ROrc.kop (i6 (v (Int.toNat (List.getD s.atoms i 0))))),(32,ROrc.pcall (tup 0 (nth [])))]),(7,[(2,ROrc.pcall (int u64 (↑(2^Int.toNat (List.getD s.atoms i 0)):Int))),(4,ROrc.val (Orc.obj (nth [int u64 (IntKind.wrap u64 (↑(BitVec.toNat (BitVec.ofInt 64 (↑(aV (List.take i s.atoms)):Int)|||BitVec.ofInt 64 (↑(2^Int.toNat (List.getD s.atoms i 0)):Int))):Int))])))])]) (fun Q=>(fun (u1:Int)=>(fun (u2:Bool)=>(fun (u3:List AObj)=>(fun (u4:Int)=>(fun (u5:AV)=>(fun (u6:Nat)=>(fun (u7:Bool)=>(fun (u8:Option (List Nat))=>(fun (u9:Int)=>(fun (u10:Int)=>(fun (u11:Option (Nat × Bool))=>(fun (u12:AV)=>(decide (u4<u10)=true->(0<=u4/\u4<u10)/\i+1<=u6*1/\1<=1/\1<=27/\(-9223372036854775808<=p.atoms-1/\p.atoms-1<=9223372036854775807)/\(∀(hp:List AObj) (g:R.σ),true=true/\Does Tryd.prog R 58 [u12,i6 0,i6 (p.atoms-1)] hp g (ret (AV.bool u7)) hp g)/\((u7 && !u4==0)=true->2<=2)/\((u7 && !u4==0)=true -> -9223372036854775808<=u4-1/\u4-1<=9223372036854775807)/\((u7 && !u4==0)=true->0<=u4-1/\u4-1<u10)/\((u7 && !u4==0)=true->Int.toNat (u4-1)+1<=u6*1)/\(u2=true->1<=1)/\(u2=true->0<=u1/\u1<(↑24:Int))/\(u2=true->OpOk Tryd.prog R (Oper.mk (some 53) (Op.load 43 (Operand.tmp 52)) 43 "table.go:155" #[Edge.mk 28 Ground.data,Edge.mk 23 Ground.guard] (some (23,true))) (evO [Row.mk (some 52) (some (23,true)) (ref 0 (Int.toNat u1+2)) false u8 [],Row.mk (some 51) (some (23,true)) (ref 0 2) false u8 [],Row.mk (some 50) (some (23,true)) (ref 0 0) false u8 [],Row.mk (some 49) (some (23,true)) u12 false u8 [],Row.mk (some 48) (some (23,true)) (ref 0 0) false u8 [4],Row.mk (some 47) none (AV.bool u2) false u8 [],Row.mk (some 46) none (AV.bool u2) false u8 [],Row.mk (some 45) (some (8,true)) (AV.bool (bif u4==0 then true else decide (u1 > u9))) false u8 [],Row.mk (some 44) u11 (AV.bool (decide (u1 > u9))) false u8 [],Row.mk (some 43) u11 (af s.atoms (Int.toNat (u4-1))) false u8 [2],Row.mk (some 42) u11 (ref 2 (Int.toNat (u4-1))) false u8 [],Row.mk (some 41) u11 (i6 (u4-1)) false u8 [],Row.mk (some 40) u11 (i6 u4) false u8 [],Row.mk (some 39) u11 (ow true 2 u6 1) false u8 [3],Row.mk (some 38) u11 (ref 3 1) false u8 [],Row.mk (some 37) u11 (ref 3 0) false u8 [],Row.mk (some 36) u11 u12 false u8 [],Row.mk (some 35) (some (8,true)) (AV.bool (u4==0)) false u8 [],Row.mk (some 34) (some (8,true)) (AV.bool (u4==0)) false u8 [],Row.mk (some 33) (some (8,true)) (i6 u4) false u8 [],Row.mk (some 32) none (AV.bool u7) false u8 [],Row.mk (some 31) none (AV.bool u7) false u8 [],Row.mk (some 30) none (i6 (p.atoms-1)) false u8 [],Row.mk (some 29) none (i6 p.atoms) false u8 [0],Row.mk (some 28) none (ref 0 0) false u8 [],Row.mk (some 27) none (ref 0 0) false u8 [],Row.mk (some 26) none (ref 0 0) false u8 [],Row.mk (some 25) none (ref 0 0) false u8 [4],Row.mk (some 24) none u12 false u8 []] [(2,ref 3 0),(3,ref 4 0),(4,ref 5 0),(5,i6 u4),(6,u12),(17,ow true 2 u6 1),(18,i6 u10),(19,i6 u4)] [(23,true)]) u3 g (i6 (v (Int.toNat u1))) u3 g)/\(∀(hp:List AObj) (g:R.σ),true=true/\Does Tryd.prog R 140 [AV.bool (bif u2 then v (Int.toNat u1)==3 else false)] hp g (ret (tup 0 (nth []))) hp g)/\Flw Tryd.prog/\1<=1/\(∀(hp:List AObj) (g:R.σ),true=true/\Does Tryd.prog R 79 [u12] hp g (ret (int u64 (↑(2^Int.toNat u1):Int))) hp g)/\1<=1/\(∀(c:Nat),c<1->nth [u5] c=al (fun (x:Nat)=>int u64 (↑(aV (List.take i s.atoms)):Int)) 0 1 (fun (x:Nat)=>u5) c)/\(-9223372036854775808<=u4+1/\u4+1<=9223372036854775807)/\Q AEx.normal (St.mk [(2,ref 3 0),(3,ref 4 0),(4,ref 5 0),(17,ow true 2 u6 1),(18,i6 u10),(19,i6 (u4+1))] [cO 27 (ae p v (AV.mp 1)),AObj.map es,cO (u6*1) fun a=>af s.atoms a,cO 2 (nth [i6 s.rule,ow true 2 u6 1]),cO 1 fun x=>ref 0 0,cO 1 (nth [u5])] g))/\(decide (u4<u10)=false->Q (AEx.exit 0) (St.mk [(2,ref 3 0),(3,ref 4 0),(4,ref 5 0),(17,ow true 2 u6 1),(18,i6 u10),(19,i6 u4),(20,AV.bool (decide (u4<u10)))] u3 g))) (af s.atoms i)) (some (11,false))) ((↑u6:Int))) (List.getD s.atoms (Int.toNat (u4-1)) 0)) (some [])) (decide (0<=u1/\u1<=p.atoms-1))) (List.length s.atoms)) (int u64 (IntKind.wrap u64 (↑(BitVec.toNat (BitVec.ofInt 64 (↑(aV (List.take i s.atoms)):Int)|||BitVec.ofInt 64 (↑(2^Int.toNat u1):Int))):Int)))) ((↑i:Int))) ([cO 27 (ae p v (AV.mp 1)),AObj.map es,cO (List.length s.atoms*1) fun a=>af s.atoms a,cO 2 (nth [i6 s.rule,ow true 2 (List.length s.atoms) 1]),cO 1 fun x=>ref 0 0,cO 1 fun x=>int u64 (↑(aV (List.take i s.atoms)):Int)])) (bif decide (0<=u1/\u1<=p.atoms-1) then bif (↑i:Int)==0 then true else decide (u1 > List.getD s.atoms (Int.toNat ((↑i:Int)-1)) 0) else false)) (List.getD s.atoms i 0)) ⟨fun c1=>have c1:(↑i:Int)<(↑(List.length s.atoms):Int):=(of_decide_eq_true c1);⟨omg,omg,omg,omg,omg,(fun _ _=>⟨rfl,(dG _ _ _ _ _ _)⟩),omg,omg,(by intro h;simp at h <;> omega),omg,omg,omg,?_,(fun _ _=>⟨rfl,(dT _ _ (by assumption) _ _)⟩),krf,omg,(fun _ _=>⟨rfl,(d9 _ _ omg _ _)⟩),omg,(fun c hc=>match c,hc with|0,_=>krf ),omg,?_⟩,fun c1=>have c1:¬(↑i:Int)<(↑(List.length s.atoms):Int):=(of_decide_eq_false c1);?_⟩
   ·intro _
    exact d6 rfl rfl krf rfl (by show _+1<=27;omega) (d8 omg omg)
   ·refine(aO (i+1) (toL (h1:=⟨Bs _,Bs _,Bs _,Bs _,Bs _,(Bt krf),trivial⟩) (h2:=⟨Bu,rfl,Bu,Bu,Bu,⟨rfl,Nat.le_refl _,fun j hj=>match j,hj with|0,_=>(Bt ?_) ⟩,trivial⟩)) ?_ ?_)
    ·show AV.int .u64 _=AV.int .u64 _
     congr 1
     rw[hx]
     exact Tb.u64_or (bI h2) (bI (Nat.pow_lt_pow_right dcd omg))
    ·refine⟨omg,?_⟩
     rw[hx]
     exact Nat.or_lt_two_pow h2 (Nat.pow_lt_pow_right dcd omg)
    ·omega
   all_goals (exfalso;omega)
  ·have hi':i=s.atoms.length:=by omega
   subst hi'
   rw[List.take_length] at h2 ⊢
   obtain⟨S,hS⟩:∃S,aV s.atoms=S:=⟨_,rfl⟩
   rw[hS] at h2 hns ⊢
   have hseq:=lB S h2
   obtain⟨l,hle⟩:∃l,ai S=l:=⟨_,rfl⟩
   rw[hle] at hseq
   have hb:decide ((s.atoms.length:Int)<(s.atoms.length:Int))=false:=decide_eq_false omg
   refine vcR [[1,1,1,0,1,0,0,1,0,0]] (lkL [(4,[2,3,4,17,18,19,20])]) (fun _=>[]) (fun Q=>(fun (u1:Int)=>(fun (u2:St R.σ)=>(decide (u1<u1)=true->WpC Tryd.prog R 79 3 139 [1,1,1,0,1,0,0,1,0,0] Q [Kont.seq [1,1,1,0,1,0,0,1,1]] u2)/\(decide (u1<u1)=false->Q (AEx.exit 0) u2)) (St.mk [(2,ref 3 0),(3,ref 4 0),(4,ref 5 0),(17,ow true 2 (List.length s.atoms) 1),(18,i6 u1),(19,i6 u1),(20,AV.bool (decide (u1<u1)))] [cO 27 (ae p v (AV.mp 1)),AObj.map es,cO (List.length s.atoms*1) fun a=>af s.atoms a,cO 2 (nth [i6 s.rule,ow true 2 (List.length s.atoms) 1]),cO 1 fun x=>ref 0 0,cO 1 fun x=>int u64 (↑S:Int)] g)) ((↑(List.length s.atoms):Int))) ⟨fun hcc=>(nomatch (hb.symm.trans hcc)),fun _=>?_⟩
   refine⟨_,BE _,vcR [] (lkL [(9,[3,4,63])]) (lkL [(9,[(1,ROrc.call (fn 105 0 (nth []) 1 (nth [ref (List.length [cO 27 (ae p v (AV.mp 1)),AObj.map es,cO (List.length s.atoms*1) fun (a:Nat)=>af s.atoms a,cO 2 (nth [i6 s.rule,ow true 2 (List.length s.atoms) 1]),cO 1 fun (x:Nat)=>ref 0 0,cO 1 fun (x:Nat)=>int u64 (↑S:Int)]) 0])) ([cO 27 (ae p v (AV.mp 1)),AObj.map es,cO (List.length s.atoms*1) fun (a:Nat)=>af s.atoms a,cO 2 (nth [i6 s.rule,ow true 2 (List.length s.atoms) 1]),cO 1 fun (x:Nat)=>ref 0 0,cO 1 fun (x:Nat)=>int u64 (↑S:Int)]++[cO 1 fun (x:Nat)=>int u64 (↑S:Int)]) g)])]) (fun Q=>(fun (u1:List AObj)=>1<=1/\(true=true/\Does Tryd.prog R 77 [int u64 (↑S:Int)] [cO 27 (ae p v (AV.mp 1)),AObj.map es,cO (List.length s.atoms*1) fun a=>af s.atoms a,cO 2 (nth [i6 s.rule,ow true 2 (List.length s.atoms) 1]),cO 1 fun x=>ref 0 0,cO 1 fun x=>int u64 (↑S:Int)] g (ret (fn 105 0 (nth []) 1 (nth [ref 6 0]))) u1 g)/\WpC Tryd.prog R 79 3 139 [1,1,1,1,0,1,0] Q [Kont.blk 2,Kont.seq [1,1,1,1,1]] (St.mk [(3,ref 4 0),(4,ref 5 0),(63,fn 105 0 (nth []) 1 (nth [ref 6 0]))] u1 g)) ([cO 27 (ae p v (AV.mp 1)),AObj.map es,cO (List.length s.atoms*1) fun a=>af s.atoms a,cO 2 (nth [i6 s.rule,ow true 2 (List.length s.atoms) 1]),cO 1 fun x=>ref 0 0,cO 1 fun x=>int u64 (↑S:Int),cO 1 fun x=>int u64 (↑S:Int)])) ⟨omg,⟨rfl,(cT _ _ _ _)⟩,?_⟩⟩
   have hin:∀k,k<l.length->l.getD k 0<24:=fun k hk=>by
    have h:=bO l 0 hk
    have h':l.getD k 0∈ai S:=by rw[hle];exact h
    exact(Tb.mem_memN.1 h').1
   have hns':∀k,k<l.length->(ofH p.rules.l (l.getD k 0)).any (ba v S)=false:=fun k hk=>by
    unfold dH at hns
    rw[hle,Bool.not_eq_true'] at hns
    have:=List.any_eq_false.1 hns _ (bO l 0 hk)
    cases h:(ofH p.rules.l (l.getD k 0)).any (ba v S) with
    |false=>rfl
    |true=>exact absurd h this
   refine iJ 63 [64] 6 krf rfl rfl rfl hseq (fun _=>rfl) krf (fun _=>⟨trivial,trivial⟩)
    (fun _=>none) (fun _=>rfl)
    (fun _=>[cO 27 (ae p v (.mp 1)),.map es,cO (s.atoms.length*1) (af s.atoms),cO 2 (nth [.int .i64 s.rule,.ow true 2 s.atoms.length 1]),cO 1 (fun _=>.ref 0 0),cO 1 (fun _=>.int .u64 S)])
    (fun _=>g) (fJ rfl rfl) (fun _=>rfl) (by exact⟨omg,omg,omg,omg,omg,omg,trivial⟩) (by exact⟨fun j _=>aW _ _ 4 _,trivial,fun _ _=>trivial,fun j hj=>(match j,hj with|0,_=>trivial|1,_=>(show 2<6 by omega)),fun _ _=>show 0<6 by omega,fun _ _=>trivial,trivial⟩) (by exact⟨fun _ _=>trivial,trivial⟩) [3,4] (by exact⟨show 4<6 by omega,show 5<6 by omega,trivial⟩) (fun k l' hk hjk=>?_) (fun _=>?_) (fun k hk hj hr=>by cases hr) (fun k id hk hj hr=>by cases hr)
   ·refine vcR [] (lkL [(10,[3,4,7])]) (fun _=>[]) (fun (Q:AEx->St R.σ->Prop)=>Q AEx.normal (St.mk [(3,ref 4 0),(4,ref 5 0),(7,i6 (↑(List.getD l k 0):Int))] [cO 27 (ae p v (AV.mp 1)),AObj.map es,cO (List.length s.atoms*1) fun (a:Nat)=>af s.atoms a,cO 2 (nth [i6 s.rule,ow true 2 (List.length s.atoms) 1]),cO 1 fun (x:Nat)=>ref 0 0,cO 1 fun (x:Nat)=>int u64 (↑S:Int)] g)) (?_)
    show Wp _ _ _ 6 _ _ _ _ _
    obtain⟨a,ha⟩:∃a,l.getD k 0=a:=⟨_,rfl⟩
    have ha24:a<24:=by rw[<-ha];exact hin k hk
    have hm:(!(ofH p.rules.l a).any (ba v S))=true:=by rw[<-ha,hns' k hk];rfl
    rw[ha]
    refine vcR [] (lkL [(11,[3,4])]) (lkL [(11,[(3,ROrc.kcall (AV.bool (List.any (ofH p.rules.l (↑a:Int)) (ba v S)))),(5,ROrc.pcall (tup 0 (nth [])))])]) (fun Q=>(fun (u1:List AObj)=>1<=1/\1<=1/\(true=true/\Does Tryd.prog R 115 [ref 0 0,i6 (↑a:Int),int u64 (↑S:Int)] u1 g (ret (AV.bool (List.any (ofH p.rules.l (↑a:Int)) (ba v S)))) u1 g)/\(∀(hp:List AObj) (g:R.σ),true=true/\Does Tryd.prog R 140 [AV.bool !List.any (ofH p.rules.l (↑a:Int)) (ba v S)] hp g (ret (tup 0 (nth []))) hp g)/\Q AEx.normal (St.mk [(3,ref 4 0),(4,ref 5 0)] u1 g)) ([cO 27 (ae p v (AV.mp 1)),AObj.map es,cO (List.length s.atoms*1) fun a=>af s.atoms a,cO 2 (nth [i6 s.rule,ow true 2 (List.length s.atoms) 1]),cO 1 fun x=>ref 0 0,cO 1 fun x=>int u64 (↑S:Int)])) ⟨omg,omg,⟨rfl,(doT (T:=LT) [0,1] 6 (fun R _ g=>j3 R (p) (v) (es) (S) (a) omg omg omg omg omg g))⟩,(fun _ _=>⟨rfl,(dT _ _ omg _ _)⟩),?_⟩
    refine(eJ rfl (aT trivial rfl rfl))
   ·show Wp _ _ _ 3 _ _ _ _ _
    refine b9 (gH 6 omg [3,4] (by exact⟨show 4<6 by omega,show 5<6 by omega,fun j _=>aW _ _ 4 _,fun _ _=>trivial,fun j hj=>(match j,hj with|0,_=>trivial|1,_=>(show 2<6 by omega)),fun _ _=>show 0<6 by omega,fun _ _=>trivial,trivial⟩)) ?_
    refine vcR [] (lkL [(12,[3,72])]) (lkL [(12,[(1,ROrc.call (fn 105 0 (nth []) 1 (nth [ref (List.length [cO 27 (ae p v (AV.mp 1)),AObj.map es,cO (List.length s.atoms*1) fun (a:Nat)=>af s.atoms a,cO 2 (nth [i6 s.rule,ow true 2 (List.length s.atoms) 1]),cO 1 fun (x:Nat)=>ref 0 0,cO 1 fun (x:Nat)=>int u64 (↑S:Int)]) 0])) ([cO 27 (ae p v (AV.mp 1)),AObj.map es,cO (List.length s.atoms*1) fun (a:Nat)=>af s.atoms a,cO 2 (nth [i6 s.rule,ow true 2 (List.length s.atoms) 1]),cO 1 fun (x:Nat)=>ref 0 0,cO 1 fun (x:Nat)=>int u64 (↑S:Int)]++[cO 1 fun (x:Nat)=>int u64 (↑S:Int)]) g)])]) (fun Q=>(fun (u1:List AObj)=>1<=1/\(true=true/\Does Tryd.prog R 77 [int u64 (↑S:Int)] [cO 27 (ae p v (AV.mp 1)),AObj.map es,cO (List.length s.atoms*1) fun a=>af s.atoms a,cO 2 (nth [i6 s.rule,ow true 2 (List.length s.atoms) 1]),cO 1 fun x=>ref 0 0,cO 1 fun x=>int u64 (↑S:Int)] g (ret (fn 105 0 (nth []) 1 (nth [ref 6 0]))) u1 g)/\WpC Tryd.prog R 79 3 139 [1,1,1,1,1,1,0] Q [Kont.blk 4] (St.mk [(3,ref 4 0),(72,fn 105 0 (nth []) 1 (nth [ref 6 0]))] u1 g)) ([cO 27 (ae p v (AV.mp 1)),AObj.map es,cO (List.length s.atoms*1) fun a=>af s.atoms a,cO 2 (nth [i6 s.rule,ow true 2 (List.length s.atoms) 1]),cO 1 fun x=>ref 0 0,cO 1 fun x=>int u64 (↑S:Int),cO 1 fun x=>int u64 (↑S:Int)])) ⟨omg,⟨rfl,(cT _ _ _ _)⟩,?_⟩
    refine iJ 72 [73] 6 krf rfl rfl rfl hseq (fun _=>rfl) krf (fun _=>⟨trivial,trivial⟩)
     (fun _=>none) (fun _=>rfl)
     (fun k=>[cO 27 (ae p (fun b=>if b∈l.take k then 1 else v b) (.mp 1)),.map es,cO (s.atoms.length*1) (af s.atoms),cO 2 (nth [.int .i64 s.rule,.ow true 2 s.atoms.length 1]),cO 1 (fun _=>.ref 0 0),cO 1 (fun _=>.int .u64 S)])
     (fun _=>g) (fJ rfl rfl) (fun _=>rfl) (by exact⟨omg,omg,omg,omg,omg,omg,trivial⟩) (by exact⟨fun j _=>aW _ _ 4 _,trivial,fun _ _=>trivial,fun j hj=>(match j,hj with|0,_=>trivial|1,_=>(show 2<6 by omega)),fun _ _=>show 0<6 by omega,fun _ _=>trivial,trivial⟩) (by exact⟨fun _ _=>trivial,trivial⟩) [3] (by exact⟨show 4<6 by omega,trivial⟩) (fun k l' hk hjk=>?_) (fun _=>?_) (fun k hk hj hr=>by cases hr) (fun k id hk hj hr=>by cases hr)
    ·refine vcR [] (lkL [(13,[3,8])]) (fun _=>[]) (fun (Q:AEx->St R.σ->Prop)=>Q AEx.normal (St.mk [(3,ref 4 0),(8,i6 (↑(List.getD l k 0):Int))] [cO 27 (ae p (fun (b:Nat)=>if b∈List.take k l then 1 else v b) (AV.mp 1)),AObj.map es,cO (List.length s.atoms*1) fun (a:Nat)=>af s.atoms a,cO 2 (nth [i6 s.rule,ow true 2 (List.length s.atoms) 1]),cO 1 fun (x:Nat)=>ref 0 0,cO 1 fun (x:Nat)=>int u64 (↑S:Int)] g)) (?_)
     show Wp _ _ _ 6 _ _ _ _ _
     obtain⟨a,ha⟩:∃a,l.getD k 0=a:=⟨_,rfl⟩
     have ha24:a<24:=by rw[<-ha];exact hin k hk
     rw[ha]
     have ho:al (ae p (fun b=>if b∈l.take k then 1 else v b) (.mp 1)) (a+2) 1 (fun _=>.int .i64 1)=ae p (fun b=>if b∈l.take (k+1) then 1 else v b) (.mp 1):=by
      funext j
      rw[lJ rfl ha24 (fun _=>.int .i64 1) rfl]
      congr 1
      funext b
      unfold cM
      have e:l[k]=a:=by rw[<-ha,List.getD_eq_getElem?_getD,List.getElem?_eq_getElem hk];rfl
      have hmem:b∈l.take (k+1)↔b∈l.take k∨b=a:=by
       rw[List.take_add_one,List.mem_append,List.getElem?_eq_getElem hk,e]
       simp
      by_cases h1:b=a
      ·rw[if_pos h1,if_pos (hmem.2 (.inr h1))]
      ·rw[if_neg h1]
       by_cases h2:b∈l.take k
       ·exact(if_pos h2).trans (if_pos (hmem.2 (.inl h2))).symm
       ·exact(if_neg h2).trans (if_neg (fun h=>(hmem.1 h).elim h2 h1)).symm
     refine vcR [] (lkL []) (fun _=>[]) (fun Q=>1<=1/\(0<=(↑a:Int)/\(↑a:Int)<(↑24:Int))/\a+2+1<=27/\Q AEx.normal (St.mk [] [cO 27 (al (ae p (fun (b:Nat)=>if b∈List.take k l then 1 else v b) (AV.mp 1)) (a+2) 1 fun x=>i6 1),AObj.map es,cO (List.length s.atoms*1) fun a=>af s.atoms a,cO 2 (nth [i6 s.rule,ow true 2 (List.length s.atoms) 1]),cO 1 fun x=>ref 0 0,cO 1 fun x=>int u64 (↑S:Int)] g)) ⟨omg,omg,omg,?_⟩
     refine(eJ rfl (toL (h2:=⟨(BC (fun j hj=>?_)),rfl,Bu,Bu,Bu,Bu,trivial⟩)))
     rw[ho]
    ·have he:(fun b=>if b∈l.take l.length then(1:Int) else v b)=cc v S:=by
      funext b
      unfold cc
      rw[List.take_length,<-hle]
      by_cases hb:S.testBit b=true
      ·rw[if_pos hb,if_pos (Tb.mem_memN.2 ⟨gp h2 hb,hb⟩)]
      ·rw[if_neg hb,if_neg (fun h=>hb (Tb.mem_memN.1 h).2)]
     rw[he]
     refine(aq (bS 3 _ _ rfl trivial omg trivial ⟨(fun _ _=>(by first|exact trivial|apply aW)),(fun _ _=>trivial),trivial⟩ krf rfl rfl) (Bs _))
theorem sb {p:Prg}{v:Nat->Int}:∀{l:List Nat} {s:Nat},s<2^24->(∀a,a∈l->a<24/\s.testBit a=true)->dg p v s l=s->∀a,a∈l->(ofH p.rules.l (a:Int)).any (ba v s)=false
 |[],_,_,_,_,_,h=>by cases h
 |a::l,s,hs,hl,he,b,hb=>by
  have he:dg p v (if (ofH p.rules.l (a:Int)).any (ba v s) then clr s a else s) l=s:=he
  cases hg:(ofH p.rules.l (a:Int)).any (ba v s) with
  |true=>
   exfalso
   rw[if_pos hg] at he
   have h1:=iR (a:=a) hs
   have h2:=fU (p:=p) (v:=v) (l:=l) (Nat.lt_of_le_of_lt h1 hs)
   have h3:clr s a=s:=by omega
   have h4:=ou hs (hl a List.mem_cons_self).1 a
   rw[h3,(hl a List.mem_cons_self).2] at h4
   simp at h4
  |false=>
   rw[if_neg (by rw[hg];decide)] at he
   rcases List.mem_cons.1 hb with rfl|hb
   ·exact hg
   ·exact sb hs (fun a ha=>hl a (List.mem_cons_of_mem _ ha)) he b hb
theorem sc {p:Prg}{v:Nat->Int}:∀{n s:Nat},s<2^24->s<n->bP p v (ec p v n s)=ec p v n s/\ec p v n s<=s
 |0,s,_,h=>by omega
 |n+1,s,hs,h=>by
  show bP p v (if bP p v s=s then s else _)=(if bP p v s=s then s else _)/\(if bP p v s=s then s else _)<=s
  have hle:bP p v s<=s:=fU hs
  by_cases he:bP p v s=s
  ·rw[if_pos he];exact⟨he,Nat.le_refl _⟩
  ·rw[if_neg he]
   have ih:=sc (p:=p) (v:=v) (n:=n) (s:=bP p v s) omg omg
   exact⟨ih.1,Nat.le_trans ih.2 hle⟩
def ew (s t:Nat):Prop:=∀j,s.testBit j=true->t.testBit j=true
theorem yR {s a:Nat}(hs:s<2^24)(ha:a<24):ew (clr s a) s:=fun j h=>by
 rw[ou hs ha,Bool.and_eq_true] at h
 exact h.1
theorem ox {p:Prg}{v:Nat->Int}:∀{l:List Nat} {s:Nat},s<2^24->(∀a,a∈l->a<24)->ew (dg p v s l) s
 |[],_,_,_=>fun _ h=>h
 |a::l,s,hs,hl=>by
  show ew (dg p v (if (ofH p.rules.l (a:Int)).any (ba v s) then clr s a else s) l) s
  split
  ·exact fun j h=>yR hs (hl a List.mem_cons_self) j (ox (Nat.lt_of_le_of_lt (iR hs) hs) (fun b hb=>hl b (List.mem_cons_of_mem _ hb)) j h)
  ·exact ox hs (fun b hb=>hl b (List.mem_cons_of_mem _ hb))
theorem iS {s a:Nat}(h:a∈ai s):a<24:=(Tb.mem_memN.1 h).1
theorem sd {p:Prg}{v:Nat->Int}:∀{n s:Nat},s<2^24->ew (ec p v n s) s
 |0,_,_=>fun _ h=>h
 |n+1,s,hs=>by
  show ew (if bP p v s=s then s else ec p v n (bP p v s)) s
  split
  ·exact fun _ h=>h
  ·exact fun j h=>ox hs (fun a ha=>iS ha) j (sd (Nat.lt_of_le_of_lt (fU hs) hs) j h)
theorem iT (v:Nat->Int)(x:Int)(n j:Nat):(aG v x n).testBit j=(decide (j<n)&&decide (v j=x)):=by
 induction n with
 |zero=>simp[aG]
 |succ n ih=>
  rw[iP]
  by_cases h:v n=x
  ·rw[if_pos h,Nat.testBit_or,ih,Nat.testBit_two_pow,Bool.eq_iff_iff]
   simp only[Bool.or_eq_true,Bool.and_eq_true,decide_eq_true_eq]
   constructor
   ·rintro (⟨h1,h2⟩|h1)
    ·exact⟨omg,h2⟩
    ·subst h1;exact⟨omg,h⟩
   ·rintro ⟨h1,h2⟩
    rcases Nat.lt_or_ge j n with h3|h3
    ·exact .inl ⟨h3,h2⟩
    ·exact .inr omg
  ·rw[if_neg h,ih,Bool.eq_iff_iff]
   simp only[Bool.and_eq_true,decide_eq_true_eq]
   constructor
   ·rintro ⟨h1,h2⟩;exact⟨omg,h2⟩
   ·rintro ⟨h1,h2⟩
    refine⟨?_,h2⟩
    rcases Nat.lt_or_ge j n with h3|h3
    ·exact h3
    ·exact absurd (by rw[show n=j by omega];exact h2) h
theorem iU {v:Nat->Int}{x:Int}{n:Nat}(h:n<=24):aG v x n<2^24:=Nat.lt_of_lt_of_le (lG v x n) (Nat.pow_le_pow_right dcd h)
def bZ (p:Prg):Prop:=1<=p.atoms/\p.atoms<=24
theorem gX {p:Prg}(v:Nat->Int)(hp:bZ p):bP p v (gre p v)=gre p v/\ew (gre p v) (aG v 3 p.atoms.toNat)/\gre p v<2^24:=by
 have hp:=hp.2
 have hs:aG v 3 p.atoms.toNat<2^24:=iU omg
 have h:=sc (p:=p) (v:=v) (n:=2^24+1) hs omg
 exact⟨h.1,sd hs,Nat.lt_of_le_of_lt h.2 hs⟩
theorem se {p:Prg}(v:Nat->Int)(hp:bZ p):dH p v (gre p v)=true:=by
 obtain⟨h1,h2,h3⟩:=gX v hp
 unfold dH
 rw[Bool.not_eq_true',List.any_eq_false]
 intro a ha
 have:=sb h3 (fun a ha=>Tb.mem_memN.1 ha) h1 a ha
 rw[this]
 decide
theorem sf (l:List Int)(j:Nat):(aV l).testBit j=l.any (fun a=>a.toNat==j):=by
 have key:∀(l:List Int) (s:Nat),(l.foldl (fun s a=>s|||2^a.toNat) s).testBit j=(s.testBit j||l.any (fun a=>a.toNat==j)):=by
  intro l
  induction l with
  |nil=>intro s;simp
  |cons a l ih=>
   intro s
   rw[List.foldl_cons,ih,Nat.testBit_or,Nat.testBit_two_pow,List.any_cons,Bool.or_assoc]
   rfl
 unfold aV
 rw[key]
 simp
theorem lT {s:Nat}{a:Int}:a∈bv s↔0<=a/\a<24/\s.testBit a.toNat=true:=by
 unfold bv
 rw[List.mem_map]
 constructor
 ·rintro ⟨n,hn,rfl⟩
  have:=Tb.mem_memN.1 hn
  exact⟨omg,omg,by simpa using this.2⟩
 ·rintro ⟨h1,h2,h3⟩
  exact⟨a.toNat,Tb.mem_memN.2 ⟨omg,h3⟩,omg⟩
theorem oy {s:Nat}(hs:s<2^24):aV (bv s)=s:=by
 refine Nat.eq_of_testBit_eq fun j=>?_
 rw[sf,Bool.eq_iff_iff,List.any_eq_true]
 constructor
 ·rintro ⟨a,ha,hj⟩
  have:=lT.1 ha
  rw[beq_iff_eq] at hj
  rw[<-hj]
  exact this.2.2
 ·intro h
  have hj:=gp hs h
  exact⟨(j:Int),lT.2 ⟨omg,omg,by simpa using h⟩,by simp⟩
theorem sg {s i j:Nat}(hij:i<j)(hj:j<(ai s).length):(ai s).getD i 0<(ai s).getD j 0:=by
 have hp:(ai s).Pairwise (·<·):=(List.pairwise_lt_range (n:=24)).sublist List.filter_sublist
 rw[List.pairwise_iff_getElem] at hp
 have:=hp i j omg hj hij
 rw[List.getD_eq_getElem?_getD,List.getD_eq_getElem?_getD,List.getElem?_eq_getElem hj,List.getElem?_eq_getElem (by omega:i<(ai s).length)]
 exact this
theorem yS {p:Prg}{v:Nat->Int}{s:Nat}(hp:bZ p)(h0:s≠0)(hs:s<2^24)(h:ew s (aG v 3 p.atoms.toNat)):dd p v (bv s)=true:=by
 unfold dd
 rw[Bool.and_eq_true,List.all_eq_true]
 constructor
 ·rw[decide_eq_true_eq,gr]
  rcases Nat.eq_zero_or_pos (ai s).length with h|h
  ·exact absurd (Tb.zero_of_mem hs (List.length_eq_zero_iff.1 h)) h0
  ·exact h
 ·intro i hi
  have hi:=List.mem_range.1 hi
  rw[gr] at hi
  have hm:=Tb.mem_memN.1 (show(ai s).getD i 0∈ai s from bO _ 0 hi)
  have hb:=h _ hm.2
  rw[iT,Bool.and_eq_true,decide_eq_true_eq,decide_eq_true_eq] at hb
  have hpos:eN p (bv s) i=true:=by
   unfold eN
   rw[gW]
   rw[decide_eq_true omg]
   show(bif (i:Int)==0 then true else _)=true
   cases hz:((i:Int)==0) with
   |true=>rfl
   |false=>
    have hz:(i:Int)≠0:=by simpa using hz
    show decide _=true
    rw[decide_eq_true_eq,gW]
    have:=sg (s:=s) (i:=i-1) (j:=i) omg hi
    rw[show((i:Int)-1).toNat=i-1 by omega]
    omega
  unfold fT
  rw[hpos,gW]
  show(v _==3)=true
  rw[beq_iff_eq]
  simpa using hb.2
def bq (v:Nat->Int)(s:Stp):Nat->Int:=if s.rule = -1 then cc v (aV s.atoms) else cM v (s.atoms.getD 0 0).toNat 2
theorem gY {U:Type}(q:U->Bool)(d:U):∀(l:List U) (i:Nat),0<=aF q l i->∃k,k<l.length/\aF q l i=(i+k:Nat)/\q (l.getD k d)=true/\∀j,j<k->q (l.getD j d)=false
 |[],_,h=>by exact absurd h (by show ¬(0:Int) <= -1;omega)
 |x::r,i,h=>by
  unfold aF at h ⊢
  cases hq:q x with
  |true=>exact⟨0,by simp,by simp,by simpa using hq,fun j hj=>absurd hj omg⟩
  |false=>
   rw[hq] at h
   obtain⟨k,h1,h2,h3,h4⟩:=gY q d r (i+1) (by simpa using h)
   refine⟨k+1,by simp;omega,?_,by simpa using h3,fun j hj=>?_⟩
   ·simp only[Bool.false_eq_true,if_false]
    rw[h2];congr 1;omega
   ·cases j with
    |zero=>simpa using hq
    |succ j=>simpa using h4 j omg
theorem lU {U:Type}(q:U->Bool):∀(l:List U) (i:Nat),¬0<=aF q l i->aF q l i = -1/\∀x,x∈l->q x=false
 |[],_,_=>⟨rfl,fun x h=>by cases h⟩
 |x::r,i,h=>by
  unfold aF at h ⊢
  cases hq:q x with
  |true=>rw[hq] at h;exact absurd (by simp) h
  |false=>
   rw[hq] at h
   have:=lU q r (i+1) (by simpa using h)
   refine⟨by simpa using this.1,fun y hy=>?_⟩
   rcases List.mem_cons.1 hy with rfl|hy
   ·exact hq
   ·exact this.2 y hy
theorem oz {p:Prg}{v:Nat->Int}(hr:∀r,r∈p.rules.l->aE r)(h:0<=bf p v):dc p v (eO (aj p v))=true/\bq v (aj p v)=fS p v (eO (aj p v))/\0<=(aj p v).rule/\aU p v=true:=by
 obtain⟨k,h1,h2,h3,_⟩:=gY (de v) default p.rules.l 0 h
 have hf:bf p v=k:=by unfold bf;rw[h2];simp
 have hn:aj p v=⟨bf p v,[(p.rules.l.getD (bf p v).toNat default).head]⟩:=if_pos h
 have hk:(bf p v).toNat=k:=by omega
 unfold de at h3
 rw[Bool.and_eq_true] at h3
 refine⟨?_,?_,?_,?_⟩
 ·rw[hn]
  unfold dc eO
  simp only[Bool.and_eq_true,beq_iff_eq,decide_eq_true_eq]
  rw[hk]
  exact⟨omg,rfl,rfl,by simpa using h3.1,h3.2⟩
 ·rw[hn]
  unfold bq
  rw[if_neg (by show ¬bf p v = -1;omega)]
  rfl
 ·rw[hn];exact h
 ·unfold aU
  rw[decide_eq_true h];rfl
theorem j5 {p:Prg}{v:Nat->Int}(hp:bZ p)(h:¬0<=bf p v)(hb:aU p v=true):aj p v=⟨-1,bv (gre p v)⟩/\dd p v (aj p v).atoms=true/\dH p v (aV (aj p v).atoms)=true/\bq v (aj p v)=cc v (aV (aj p v).atoms)/\gre p v≠0:=by
 have hn:aj p v=⟨-1,bv (gre p v)⟩:=if_neg h
 have h0:gre p v≠0:=by
  unfold aU at hb
  rw[decide_eq_false h] at hb
  simpa using hb
 obtain⟨g1,g2,g3⟩:=gX v hp
 refine⟨hn,?_,?_,?_,h0⟩
 ·rw[hn];exact yS hp h0 g3 g2
 ·rw[hn]
  show dH p v (aV (bv (gre p v)))=true
  rw[oy g3]
  exact se v hp
 ·unfold bq
  rw[if_pos (by rw[hn])]
theorem yT {p:Prg}{v:Nat->Int}(hb:aU p v=false):¬0<=bf p v/\gre p v=0:=by
 unfold aU at hb
 rw[Bool.or_eq_false_iff,decide_eq_false_iff_not] at hb
 exact⟨hb.1,by simpa using hb.2⟩
def cp (p:Prg)(v:Nat->Int):Nat:=((List.range p.atoms.toNat).filter (fun a=>v a==3)).length
theorem oA {U:Type}{q q':U->Bool}:∀{l:List U},(∀a,a∈l->q' a=true->q a=true)->(l.filter q').length<=(l.filter q).length
 |[],_=>Nat.le_refl _
 |y::l,hsub=>by
  have ih:=oA (q:=q) (q':=q') (l:=l) (fun a ha=>hsub a (List.mem_cons_of_mem _ ha))
  rw[List.filter_cons,List.filter_cons]
  cases hy':q' y with
  |true=>rw[hsub y (by simp) hy'];simpa using ih
  |false=>cases q y <;> simp <;> omega
theorem j6 {U:Type}{q q':U->Bool}:∀{l:List U},(∀a,a∈l->q' a=true->q a=true)->(∃a,a∈l/\q a=true/\q' a=false)->(l.filter q').length<(l.filter q).length
 |[],_,⟨a,h,_⟩=>by cases h
 |x::l,hsub,⟨a,ha,h1,h2⟩=>by
  have hle:(l.filter q').length<=(l.filter q).length:=oA (fun a ha=>hsub a (List.mem_cons_of_mem _ ha))
  rw[List.filter_cons,List.filter_cons]
  rcases List.mem_cons.1 ha with rfl|ha
  ·rw[h1,h2];simp;omega
  ·have ih:=j6 (q:=q) (q':=q') (l:=l) (fun a ha=>hsub a (List.mem_cons_of_mem _ ha)) ⟨a,ha,h1,h2⟩
   cases hx':q' x with
   |true=>rw[hsub x (by simp) hx'];simpa using ih
   |false=>cases q x <;> simp <;> omega
theorem yU {p:Prg}{v w:Nat->Int}(hsub:∀a,w a=3->v a=3)(h:∃a:Nat,(a:Int)<p.atoms/\v a=3/\w a≠3):cp p w<cp p v:=by
 obtain⟨a,h1,h2,h3⟩:=h
 refine j6 (fun b _ hb=>?_) ⟨a,List.mem_range.2 omg,by simpa using h2,by simpa using h3⟩
 have:w b=3:=by simpa using hb
 simpa using hsub b this
theorem j7 (p:Prg)(v:Nat->Int):cp p v<=p.atoms.toNat:=by
 unfold cp
 exact Nat.le_trans (List.length_filter_le _ _) (by rw[List.length_range];exact Nat.le_refl _)
def cG (p:Prg):Prop:=∀r,r∈p.rules.l->r.head<p.atoms
theorem sh {p:Prg}{v:Nat->Int}(hp:bZ p)(hr:∀r,r∈p.rules.l->aE r)(hh:cG p)(hb:aU p v=true):(∀a,bq v (aj p v) a=3->v a=3)/\∃a:Nat,(a:Int)<p.atoms/\v a=3/\bq v (aj p v) a≠3:=by
 by_cases h:0<=bf p v
 ·obtain⟨h1,h2,_,_⟩:=oz hr h
  unfold dc at h1
  simp only[Bool.and_eq_true,beq_iff_eq,decide_eq_true_eq] at h1
  obtain⟨k1,k2,k3,k4,k5⟩:=h1
  have hm:=bO p.rules.l default (show(eO (aj p v)).rule.toNat<p.rules.l.length by omega)
  have h3:=(hr _ hm).2
  have h4:=hh _ hm
  rw[h2]
  unfold fS cM
  refine⟨fun a ha=>?_,(p.rules.l.getD (eO (aj p v)).rule.toNat default).head.toNat,omg,k4,?_⟩
  ·split at ha
   ·cases ha
   ·exact ha
  ·rw[if_pos rfl];decide
 ·obtain⟨h1,h2,h3,h4,h5⟩:=j5 hp h hb
  obtain⟨g1,g2,g3⟩:=gX v hp
  rw[h4,h1]
  show(∀a,cc v (aV (bv (gre p v))) a=3->_)/\_
  rw[oy g3]
  unfold cc
  refine⟨fun a ha=>?_,?_⟩
  ·split at ha
   ·cases ha
   ·exact ha
  ·obtain⟨a,ha⟩:∃a,(gre p v).testBit a=true:=by
    obtain⟨k,m,h⟩:=Tb.low_of (show 0<gre p v by omega)
    exact⟨k,by rw[Tb.low_bit h];simp⟩
   have:=g2 a ha
   rw[iT,Bool.and_eq_true,decide_eq_true_eq,decide_eq_true_eq] at this
   refine⟨a,by have:=this.1;omega,this.2,?_⟩
   rw[if_pos ha];decide
theorem lV {p:Prg}{v:Nat->Int}(hp:bZ p)(hr:∀r,r∈p.rules.l->aE r)(hh:cG p)(hb:aU p v=true):cp p (bq v (aj p v))<cp p v:=
 let ⟨h1,h2⟩:=sh hp hr hh hb
 yU h1 h2
theorem sj {p:Prg}{v:Nat->Int}(hp:bZ p)(hr:∀r,r∈p.rules.l->aE r)(hh:cG p):(∀a,a∈(aj p v).atoms->0<=a/\a<p.atoms)/\(aj p v).atoms.length<=24:=by
 by_cases h:0<=bf p v
 ·obtain⟨k,h1,h2,_,_⟩:=gY (de v) default p.rules.l 0 h
  have hn:aj p v=⟨bf p v,[(p.rules.l.getD (bf p v).toNat default).head]⟩:=if_pos h
  have hf:(bf p v).toNat=k:=by unfold bf;rw[h2];simp
  have hm:=bO p.rules.l default h1
  rw[hn,hf]
  refine⟨fun a ha=>?_,by simp⟩
  have:a=(p.rules.l.getD k default).head:=by simpa using ha
  rw[this]
  exact⟨(hr _ hm).2.1,hh _ hm⟩
 ·have hn:aj p v=⟨-1,bv (gre p v)⟩:=if_neg h
  obtain⟨g1,g2,g3⟩:=gX v hp
  rw[hn]
  refine⟨fun a ha=>?_,?_⟩
  ·obtain⟨m1,m2,m3⟩:=lT.1 ha
   have:=g2 _ m3
   rw[iT,Bool.and_eq_true,decide_eq_true_eq] at this
   have:=this.1
   omega
  ·show(bv _).length<=24
   rw[gr]
   exact gV _
def cH (p:Prg):Nat->(Nat->Int)->List Stp->List Stp × (Nat->Int)
 |0,v,l=>(l,v)
 |n+1,v,l=>if aU p v then cH p n (bq v (aj p v)) (l++[aj p v]) else(l,v)
def ak (p:Prg):List Stp × (Nat->Int):=cH p 25 (fun _=>3) []
theorem oB {p:Prg}(hp:bZ p)(hr:∀r,r∈p.rules.l->aE r)(hh:cG p):∀(n:Nat) (v:Nat->Int) (l:List Stp),cp p (cH p n v l).2+(cH p n v l).1.length<=cp p v+l.length
 |0,_,_=>Nat.le_refl _
 |n+1,v,l=>by
  show cp p (if aU p v then cH p n (bq v (aj p v)) (l++[aj p v]) else(l,v)).2+(if aU p v then cH p n (bq v (aj p v)) (l++[aj p v]) else(l,v)).1.length<=_
  by_cases hb:aU p v=true
  ·rw[if_pos hb]
   have h1:=oB hp hr hh n (bq v (aj p v)) (l++[aj p v])
   have h2:=lV hp hr hh hb
   rw[List.length_append,List.length_singleton] at h1
   omega
  ·rw[if_neg hb]
   exact Nat.le_refl _
theorem lW {p:Prg}(hp:bZ p)(hr:∀r,r∈p.rules.l->aE r)(hh:cG p):(ak p).1.length<=24:=by
 have h:=oB hp hr hh 25 (fun _=>3) []
 have h2:=j7 p (fun _=>3)
 have h3:=hp.2
 have h4:(ak p).1.length<=cp p (fun _=>3):=by
  show(cH p 25 (fun _=>3) []).1.length<=_
  simp only[List.length_nil] at h
  omega
 omega
theorem yV {P:Program}{R:Res}{o:Oper}{ev ev':Operand->AV}{hp hp':List AObj}{g g':R.σ}{v:AV}(h:OpOk P R o ev' hp g v hp' g')(hle:∀x,x∈o.op.operands->Le (ev x) (ev' x)):OpOk P R o ev hp g v hp' g':=
 ⟨fun FM Z w evc okw hop=>h.h FM Z w evc okw (fun x hx=>hle x hx _ _ _ (hop x hx))⟩
theorem yW (R:Res)(r:Int)(n N:Nat)(c:Nat->AV)(hc:∀j,j<N->Below 1 (c j))(hr:decide (r = -1)=true)(g:R.σ):Does Tryd.prog R 68 [.agg 2 (nth [.int .i64 r,.ow true 0 n 1])] [cO N c] g (.ret (.ifc 148 (.agg 2 (nth [.int .i64 r,.ow true 0 n 1])))) [cO N c] g:=by
 have hr:=of_decide_eq_true hr
 subst hr
 refine spW (nt:=12) (rs:=[.tmp 2]) (k0:=1) ?_
 refine vcR [[1,0,1,1]] (lkL [(0,[1]),(1,[1,5]),(2,[2])]) (fun _=>[]) (fun Q=>(fun (u1:List AObj)=>1<=2/\(true=true->2<=2/\Q AEx.ret (St.mk [(2,ifc 148 (agg 2 (nth [i6 (-1),ow true 0 n 1])))] u1 g))/\(true=false->WpC Tryd.prog R 12 1 68 [1,0,1,1] Q [Kont.seq [1,1]] (St.mk [(1,ref 1 0),(5,AV.bool true)] u1 g))) ([cO N c,cO 2 (nth [i6 (-1),ow true 0 n 1])])) ⟨omg,fun _=>⟨omg,?_⟩,fun h=>(nomatch h)⟩
 refine(aq (bS 1 _ _ rfl trivial omg ⟨⟨trivial,trivial⟩,(show 1<=1 by omega)⟩ ⟨(fun _ _=>?_),trivial⟩ krf rfl rfl) (Bs _))
 exact hc _ (by assumption)
theorem yX (R:Res)(r:Int)(n N:Nat)(c:Nat->AV)(hc:∀j,j<N->Below 1 (c j))(hr:decide (r = -1)=false)(g:R.σ):Does Tryd.prog R 68 [.agg 2 (nth [.int .i64 r,.ow true 0 n 1])] [cO N c] g (.ret (.ifc 149 (.agg 2 (nth [.int .i64 r,.ow true 0 n 1])))) [cO N c] g:=by
 refine spW (nt:=12) (rs:=[.tmp 2]) (k0:=1) ?_
 refine vcR [] (lkL [(0,[1]),(1,[1,5]),(2,[2]),(3,[2])]) (fun _=>[]) (fun Q=>(fun (u1:List AV)=>1<=2/\((r == -1)=true->2<=2/\Q AEx.ret (St.mk [(2,ifc 148 (agg 2 (nth u1)))] [cO N c,cO 2 (nth u1)] g))/\((r == -1)=false->2<=2/\Q AEx.ret (St.mk [(2,ifc 149 (agg 2 (nth u1)))] [cO N c,cO 2 (nth u1)] g))) ([i6 r,ow true 0 n 1])) ⟨omg,fun c1=>have c1:r = -1:=(beq_iff_eq.mp c1);⟨omg,?_⟩,fun c1=>have c1:¬r = -1:=(beq_eq_false_iff_ne.mp c1);⟨omg,?_⟩⟩
 ·exact absurd c1 (of_decide_eq_false hr)
 ·refine(aq (bS 1 _ _ rfl trivial omg ⟨⟨trivial,trivial⟩,(show 1<=1 by omega)⟩ ⟨(fun _ _=>?_),trivial⟩ krf rfl rfl) (Bs _))
  exact hc _ (by assumption)
theorem cb {f:Nat->Nat}{p:Prg}{v:Nat->Int}{j m:Nat}(h:f 1=m):aK f (ae p v (.mp 1) j)=ae p v (.mp m) j:=by
 unfold ae
 split
 ·rfl
 ·split
  ·rfl
  ·split
   ·rfl
   ·show AV.mp (f 1)=_
    rw[h]
theorem lX (R:Res)(p:Prg)(o:AObj)(hl:p.rules.l.length<1000000)(hr:∀r,r∈p.rules.l->aE r)(g:R.σ):Does Tryd.prog R 66 [av p] [o] g (.ret (.ref 1 0)) [o,cO 27 (ae p (fun _=>3) (.mp 2)),.map (esF p.rules.l)] g:=
 eI [] 1 (fun R g=>yC R p hl hr g) rfl rfl rfl trivial trivial ⟨bt (by exact⟨⟨trivial,trivial⟩,trivial⟩),trivial⟩ (Bs _) ⟨Bv _,BC (fun j hj=>cb rfl),rfl,trivial⟩
theorem d7 {k:Nat}(l:List Int)(j:Nat):Below k (af l j):=trivial
theorem fP {f:Nat->Nat}(h:True){l:List Int}{j:Nat}:aK f (af l j)=af l j:=rfl
def bV (l:List Stp):Nat->AV:=fun c=>bif Nat.beq (c%2) 0 then .int .i64 (l.getD (c/2) default).rule else .ow true (3+c/2) (l.getD (c/2) default).atoms.length 1
def ab (l:List Stp)(j:Nat):AObj:=cO ((l.getD j default).atoms.length*1) (af (l.getD j default).atoms)
def j8 (p:Prg)(v:Nat->Int)(l:List Stp):List AObj:=cO 27 (ae p v (.mp 1))::.map (esF p.rules.l)::cO (l.length*2) (bV l)::bJ (ab l) []
theorem sk {f:Nat->AV}{g:Nat->AV}:LeO (cO 0 f) (cO 0 g):=⟨rfl,Nat.le_refl _,fun j hj=>absurd hj (Nat.not_lt_zero j)⟩
theorem yY (p:Prg):leH ([cO 27 (ae p (fun _=>3) (.mp 1)),.map (esF p.rules.l)]++List.replicate 25 (cO 0 (fun _=>.any))) (j8 p (fun _=>3) []):=
 ⟨Bv _,rfl,sk,rV (f:=fun _=>cO 0 (fun _=>.any)) (fun j hj=>sk) trivial⟩
def ey (l:List Stp)(s:Stp):Nat->AV:=fun c=>bif Nat.blt c (l.length*2) then bV l c else nth [.int .i64 s.rule,.ow true 28 s.atoms.length 1] (c-l.length*2)
def dJ (m:Nat):List Nat:=[0,1,31,(bif Nat.beq 0 m then 28 else 3),(bif Nat.beq 1 m then 28 else 4),(bif Nat.beq 2 m then 28 else 5),(bif Nat.beq 3 m then 28 else 6),(bif Nat.beq 4 m then 28 else 7),(bif Nat.beq 5 m then 28 else 8),(bif Nat.beq 6 m then 28 else 9),(bif Nat.beq 7 m then 28 else 10),(bif Nat.beq 8 m then 28 else 11),(bif Nat.beq 9 m then 28 else 12),(bif Nat.beq 10 m then 28 else 13),(bif Nat.beq 11 m then 28 else 14),(bif Nat.beq 12 m then 28 else 15),(bif Nat.beq 13 m then 28 else 16),(bif Nat.beq 14 m then 28 else 17),(bif Nat.beq 15 m then 28 else 18),(bif Nat.beq 16 m then 28 else 19),(bif Nat.beq 17 m then 28 else 20),(bif Nat.beq 18 m then 28 else 21),(bif Nat.beq 19 m then 28 else 22),(bif Nat.beq 20 m then 28 else 23),(bif Nat.beq 21 m then 28 else 24),(bif Nat.beq 22 m then 28 else 25),(bif Nat.beq 23 m then 28 else 26)]
theorem j9 {m:Nat}(hm:m<24):bF (dJ m) 32=true/\cK (dJ m)=true/\∀b,b<24->ar (dJ m) 32 (3+b)=(bif Nat.beq b m then 28 else b+3):=by
 have h:(List.range 24).all (fun m=>bF (dJ m) 32&&(cK (dJ m)&&(List.range 24).all (fun b=>ar (dJ m) 32 (3+b)==(bif Nat.beq b m then 28 else b+3))))=true:=by decide +kernel
 have h:=(List.all_eq_true.1 h) m (List.mem_range.2 hm)
 simp only[Bool.and_eq_true] at h
 exact⟨h.1,h.2.1,fun b hb=>by simpa using (List.all_eq_true.1 h.2.2) b (List.mem_range.2 hb)⟩
theorem yZ {f:Nat->Nat}{hp:List AObj}{m:Nat}{g:Nat->AObj}{x0 x1 x2:AObj}(h:∀j,j<24->LeO (ag hp (bif Nat.beq j m then 28 else j+3)) (bX f (g j)))(h0:LeO (ag hp 0) (bX f x0))(h1:LeO (ag hp 1) (bX f x1))(h2:LeO (ag hp 31) (bX f x2)):cZ f hp (dJ m) (x0::x1::x2::bJ g []):=
 ⟨h0,h1,h2,h 0 dcd,h 1 dcd,h 2 dcd,h 3 dcd,h 4 dcd,h 5 dcd,h 6 dcd,h 7 dcd,h 8 dcd,h 9 dcd,h 10 dcd,h 11 dcd,h 12 dcd,h 13 dcd,h 14 dcd,h 15 dcd,h 16 dcd,h 17 dcd,h 18 dcd,h 19 dcd,h 20 dcd,h 21 dcd,h 22 dcd,h 23 dcd,trivial⟩
theorem oC {j m:Nat}(h:j≠m):Nat.beq j m=false:=by
 cases hx:Nat.beq j m with
 |false=>rfl
 |true=>exact absurd (Nat.eq_of_beq_eq_true hx) h
theorem sm (m:Nat):Nat.beq m m=true:=by simp
theorem sn {l:List Stp}{s:Stp}{z:Nat->AV}{c:Nat}(hc:c<(l.length+1)*2):ey l s c=aZ 2 l.length (fun i j=>bV l (i*2+j)) (fun i j=>al z 0 2 (nth [.int .i64 s.rule,.ow true 28 s.atoms.length 1]) (0+i*2+j)) c:=by
 unfold aZ ey
 by_cases h:c<l.length*2
 ·rw[if_pos h,show Nat.blt c (l.length*2)=true by rw[Nat.blt_eq];exact h]
  show bV l c=bV l (c/2*2+c%2)
  rw[show c/2*2+c%2=c by omega]
 ·rw[if_neg h,show Nat.blt c (l.length*2)=false from by
   cases hx:Nat.blt c (l.length*2) with
   |false=>rfl
   |true=>exact absurd (by rw[Nat.blt_eq] at hx;exact hx) h]
  show nth _ (c-l.length*2)=al z 0 2 _ (0+(c-l.length*2)/2*2+(c-l.length*2)%2)
  rw[dt,if_pos omg]
  congr 1
  omega
theorem oD {l:List Stp}{s:Stp}{j:Nat}:(l++[s]).getD j default=if j=l.length then s else l.getD j default:=by
 rw[List.getD_eq_getElem?_getD,List.getD_eq_getElem?_getD]
 rcases Nat.lt_trichotomy j l.length with h|h|h
 ·rw[List.getElem?_append_left h,if_neg omg]
 ·subst h
  rw[List.getElem?_append_right (Nat.le_refl _),Nat.sub_self,if_pos rfl]
  rfl
 ·rw[if_neg omg,List.getElem?_eq_none (by simp;omega),List.getElem?_eq_none omg]
theorem so {p:Prg}{v':Nat->Int}{l:List Stp}{s:Stp}{o27 o29 o30:AObj}(hm:l.length<24):cZ (ar (dJ l.length) 32) (cO 27 (ae p v' (.mp 1))::.map (esF p.rules.l)::.dead::bJ (ab l) [o27,cO (s.atoms.length*1) (af s.atoms),o29,o30,cO ((l.length+1)*2) (ey l s)]) (dJ l.length) (j8 p v' (l++[s])):=by
 have hf:=(j9 hm).2.2
 refine yZ (fun j hj=>?_) (BC (fun j hj=>(cx (f:=ar (dJ l.length) 32) rfl).symm)) rfl ?_
 ·by_cases hjm:j=l.length
  ·subst hjm
   rw[sm]
   show LeO (cO (s.atoms.length*1) (af s.atoms)) (bX _ (ab (l++[s]) l.length))
   unfold ab
   rw[oD,if_pos rfl]
   exact Bv _
  ·rw[oC hjm]
   have e:=lO (f:=ab l) (r:=[o27,cO (s.atoms.length*1) (af s.atoms),o29,o30,cO ((l.length+1)*2) (ey l s)]) hj
   show LeO (ag (bJ (ab l) _) j) _
   rw[e]
   unfold ab
   rw[oD,if_neg hjm]
   exact Bv _
 ·show LeO (cO ((l.length+1)*2) (ey l s)) (cO ((l++[s]).length*2) (fun c=>aK (ar (dJ l.length) 32) (bV (l++[s]) c)))
  rw[List.length_append,List.length_singleton]
  refine BC (fun c hc=>?_)
  unfold ey bV
  rw[oD]
  by_cases h:c<l.length*2
  ·rw[show Nat.blt c (l.length*2)=true by rw[Nat.blt_eq];exact h,if_neg omg]
   show(bif Nat.beq (c%2) 0 then _ else _)=aK _ (bif Nat.beq (c%2) 0 then _ else _)
   cases Nat.beq (c%2) 0 with
   |true=>rfl
   |false=>
    show AV.ow true (3+c/2) _ 1=AV.ow true (ar (dJ l.length) 32 (3+c/2)) _ 1
    rw[hf (c/2) omg,oC omg]
    congr 1
    show 3+c/2=c/2+3
    omega
  ·rw[show Nat.blt c (l.length*2)=false from by
    cases hx:Nat.blt c (l.length*2) with
    |false=>rfl
    |true=>exact absurd (by rw[Nat.blt_eq] at hx;exact hx) h,if_pos omg]
   have h2:c=l.length*2∨c=l.length*2+1:=by omega
   rcases h2 with rfl|rfl
   ·rw[show l.length*2%2=0 by omega,Nat.sub_self]
    rfl
   ·rw[show(l.length*2+1)%2=1 by omega,show l.length*2+1-l.length*2=1 by omega,show(l.length*2+1)/2=l.length by omega]
    show AV.ow true 28 _ 1=AV.ow true (ar (dJ l.length) 32 (3+l.length)) _ 1
    rw[hf l.length hm,sm]
    rfl
theorem oE {R:Res}{o:Oper}{ev:Operand->AV}{hp:List AObj}{g:R.σ}{x y:Operand}(a b:Nat->Int)(r:Bool)(ho:o.op=.binOp .eql 95 x y 95)(hne:x≠y)(hx:Le (ev x) (.agg 24 (fun j=>.int .i64 (a j))))(hy:Le (ev y) (.agg 24 (fun j=>.int .i64 (b j))))(hr:r=true↔∀j,j<24->a j=b j):OpOk Tryd.prog R o ev hp g (.bool r) hp g:=by
 classical
 have h:=wA (P:=Tryd.prog) (R:=R) (hp:=hp) (g:=g) (n:=24) (ev:=fun z=>if z=x then .agg 24 (fun j=>.int .i64 (a j)) else if z=y then .agg 24 (fun j=>.int .i64 (b j)) else .any) (e:=43) (k:=.i64) (a:=a) (b:=b) ho (if_pos rfl) ((if_neg (Ne.symm hne)).trans (if_pos rfl)) krf krf krf krf krf
 have e:∀d:Bool,(d=true↔∀j,j<24->a j=b j)->d=r:=fun d hd=>by
  rw[Bool.eq_iff_iff,hd,hr]
 rw[e _ decide_eq_true_iff] at h
 refine yV h (fun z _=>?_)
 by_cases h1:z=x
 ·subst h1;simp only[if_true];exact hx
 ·by_cases h2:z=y
  ·subst h2;simp only[h1,if_false,if_true];exact hy
  ·simp only[h1,h2,if_false];exact Le.any _
theorem oF {p:Prg}{v:Nat->Int}{m:AV}:Le (.agg 24 (fun j=>ae p v m (j+2))) (.agg 24 (fun j=>.int .i64 (v j))):=
 Bx (fun j hj=>Bt (d8 rfl hj))
theorem oG {p:Prg}{v:Nat->Int}{m:AV}{z:Nat->AV}:Le (.agg 24 (al z 0 24 (fun j=>ae p v m (j+2)))) (.agg 24 (fun j=>.int .i64 (v j))):=
 Bx (fun j hj=>Bt (by rw[dt,if_pos omg,Nat.sub_zero];exact d8 rfl hj))
theorem sq {p:Prg}{v:Nat->Int}(hp:bZ p)(hr:∀r,r∈p.rules.l->aE r)(hh:cG p)(hb:aU p v=true):false=true↔∀j,j<24->bq v (aj p v) j=v j:=by
 obtain⟨_,a,h1,h2,h3⟩:=sh hp hr hh hb
 have:=hp.2
 exact⟨fun h=>(by cases h),fun h=>absurd ((h a omg).trans h2) h3⟩
theorem y0 {l:List Stp}(hl:l.length<=24){c:Nat}(hc:c<l.length*2):Below 27 (bV l c):=by
 unfold bV
 cases Nat.beq (c%2) 0 with
 |true=>trivial
 |false=>show 3+c/2<27;omega
theorem sr {p:Prg}{v:Nat->Int}{l:List Stp}{f:Nat}(hb:aU p v=true)(hlt:cp p (bq v (aj p v))<cp p v)(h1:cp p v+l.length<=p.atoms.toNat)(h2:cp p v<f)(h3:cH p f v l=ak p):cp p (bq v (aj p v))+(l++[aj p v]).length<=p.atoms.toNat/\∃f,cp p (bq v (aj p v))<f/\cH p f (bq v (aj p v)) (l++[aj p v])=ak p:=by
 refine⟨?_,?_⟩
 ·rw[List.length_append,List.length_singleton];omega
 ·obtain⟨f,rfl⟩:∃k,f=k+1:=⟨f-1,omg⟩
  refine⟨f,omg,?_⟩
  rw[<-h3]
  show _=(if aU p v then _ else _)
  rw[if_pos hb]
theorem su (R:Res)[Tab LT R](p:Prg)(hl:p.rules.l.length<1000000)(hr:∀r,r∈p.rules.l->aE r)(hp:bZ p)(hh:cG p)(g:R.σ):Does Tryd.prog R 60 [av p] [] g (.ret (.tup 2 (nth [.ow true 2 (ak p).1.length 2,.ref 0 0]))) (j8 p (ak p).2 (ak p).1) g:=by
 refine spW (nt:=37) (rs:=[.tmp 2,.tmp 3]) (k0:=0) ?_
 refine vcR [] (lkL [(0,[1]),(1,[4]),(2,[4,5])]) (lkL [(1,[(1,ROrc.call (ref 1 0) [cO 2 (nth [i6 p.atoms,ad p.rules]),cO 27 (ae p (fun (x:Nat)=>3) (AV.mp 2)),AObj.map (esF p.rules.l)] g)])]) (fun Q=>(fun (u1:List AObj)=>2<=2/\(true=true/\Does Tryd.prog R 66 [av p] [cO 2 (nth [i6 p.atoms,ad p.rules])] g (ret (ref 1 0)) u1 g)/\WpC Tryd.prog R 37 0 60 [1,1,1,0] Q [Kont.blk 0] (St.mk [(4,ref 1 0),(5,fz Fz.nil 0 0 fun x x_1=>any)] u1 g)) ([cO 2 (nth [i6 p.atoms,ad p.rules]),cO 27 (ae p (fun (x:Nat)=>3) (AV.mp 2)),AObj.map (esF p.rules.l)])) ⟨omg,⟨rfl,(lX _ _ _ omg omg _)⟩,?_⟩
 refine b9 (toS (s':=⟨[(4,.ref 0 0),(5,.fz .nil 0 0 fun _ _=>.any)],[cO 27 (ae p (fun _=>3) (.mp 1)),.map (esF p.rules.l)],g⟩) [1,2] 3 (hob:=⟨BC (fun j hj=>(cb (f:=ar [1,2] 3) rfl).symm),rfl,trivial⟩)) ?_
 refine b9 (gq (fun _=>.any) 25) ?_
 refine b9 (toL (s':=⟨[(4,.ref 0 0),(5,.ow true 2 0 2)],j8 p (fun _=>3) [],g⟩) (h1:=⟨Bs _,Le.nil_ow,trivial⟩) (h2:=yY p)) ?_
 refine(a9 krf (fun (x:(Nat->Int) × List Stp)=>⟨[(4,ref 0 0),(5,.ow true 2 x.2.length 2)],(j8 p x.1 x.2),g⟩) (fun (x:(Nat->Int) × List Stp)=>(cp p x.1+x.2.length<=p.atoms.toNat/\∃f,cp p x.1<f/\cH p f x.1 x.2=ak p)) (fun (x:(Nat->Int) × List Stp)=>(cp p x.1)) ((fun _=>3,[]):(Nat->Int) × List Stp) (aT ⟨Bs _,Bs _,trivial⟩ rfl rfl) ?_ (fun x hi=>?_))
 ·refine⟨j7 p _,25,?_,rfl⟩
  have:=j7 p (fun _=>3)
  have:=hp.2
  show cp p (fun _=>3)<25
  omega
 ·obtain⟨v,l⟩:=x
  obtain⟨h1,f,h2,h3⟩:=hi
  simp only at h1 h2 h3
  have hes:=ol hr
  have hp':1<=p.atoms/\p.atoms<=24:=hp
  have hroom:aC=140737488355328:=rfl
  have hat:=sj (v:=v) hp hr hh
  cases hb:aU p v with
  |true=>
   by_cases hf:0<=bf p v
   ·obtain⟨k1,k2,k3,_⟩:=oz hr hf
    have hal:0<(aj p v).atoms.length:=by rw[show aj p v=_ from if_pos hf];exact Nat.zero_lt_one
    have k4:decide ((aj p v).rule = -1)=false:=decide_eq_false omg
    refine vcR [[1,1,1,0,0,0,1,1,1,0],[1,1,1,0,0,0,1,0,1,1,1]] (lkL [(3,[4,5,6]),(4,[4,5,6,7,8]),(5,[4,5,6,7,20]),(6,[4,5,6,7]),(7,[4,5,6]),(8,[4,5,34])]) (lkL [(4,[(1,ROrc.call (tup 2 (nth [agg 2 (nth [i6 (aj p v).rule,ow true 28 (List.length (aj p v).atoms) 1]),AV.bool (aU p v)])) [cO 27 (ae p v (AV.mp 1)),AObj.map (esF p.rules.l),cO (List.length l*2) (bV l),ab l 0,ab l 1,ab l 2,ab l 3,ab l 4,ab l 5,ab l 6,ab l 7,ab l 8,ab l 9,ab l 10,ab l 11,ab l 12,ab l 13,ab l 14,ab l 15,ab l 16,ab l 17,ab l 18,ab l 19,ab l 20,ab l 21,ab l 22,ab l 23,cO 24 (al (nth [i6 0,i6 0,i6 0,i6 0,i6 0,i6 0,i6 0,i6 0,i6 0,i6 0,i6 0,i6 0,i6 0,i6 0,i6 0,i6 0,i6 0,i6 0,i6 0,i6 0,i6 0,i6 0,i6 0,i6 0]) 0 24 fun (j:Nat)=>ae p v (AV.mp 1) (j+2)),cO (List.length (aj p v).atoms*1) (af (aj p v).atoms)] g),(6,ROrc.val (Orc.obj (nth [i6 (aj p v).rule,ow true 28 (List.length (aj p v).atoms) 1])))]),(6,[(1,ROrc.kcall (ifc 149 (agg 2 (nth [i6 (aj p v).rule,ow true 28 (List.length (aj p v).atoms) 1])))),(3,ROrc.inv (tup 0 (nth [])) [cO 27 (ae p (fS p v (eO (aj p v))) (AV.mp 1)),AObj.map (esF p.rules.l),cO (List.length l*2) (bV l),ab l 0,ab l 1,ab l 2,ab l 3,ab l 4,ab l 5,ab l 6,ab l 7,ab l 8,ab l 9,ab l 10,ab l 11,ab l 12,ab l 13,ab l 14,ab l 15,ab l 16,ab l 17,ab l 18,ab l 19,ab l 20,ab l 21,ab l 22,ab l 23,cO 24 (al (nth [i6 0,i6 0,i6 0,i6 0,i6 0,i6 0,i6 0,i6 0,i6 0,i6 0,i6 0,i6 0,i6 0,i6 0,i6 0,i6 0,i6 0,i6 0,i6 0,i6 0,i6 0,i6 0,i6 0,i6 0]) 0 24 fun (j:Nat)=>ae p v (AV.mp 1) (j+2)),cO (List.length (aj p v).atoms*1) fun (a:Nat)=>af (aj p v).atoms a,cO 2 (nth [i6 (aj p v).rule,ow true 28 (List.length (aj p v).atoms) 1])] g)]),(7,[(3,ROrc.val (Orc.obj (ey l (aj p v))))]),(8,[(5,ROrc.kop (AV.bool false))])]) (fun Q=>(fun (u1:List AObj)=>(fun (u2:List AObj)=>(fun (u3:List AV)=>(fun (u4:List AV)=>(fun (u5:AObj)=>(fun (u6:St R.σ)=>(fun (u7:AObj)=>26<=27/\24<=24/\(true=true/\Does Tryd.prog R 96 [ref 0 0] [u5,AObj.map (esF p.rules.l),cO (List.length l*2) (bV l),ab l 0,ab l 1,ab l 2,ab l 3,ab l 4,ab l 5,ab l 6,ab l 7,ab l 8,ab l 9,ab l 10,ab l 11,ab l 12,ab l 13,ab l 14,ab l 15,ab l 16,ab l 17,ab l 18,ab l 19,ab l 20,ab l 21,ab l 22,ab l 23,u7] g (ret (tup 2 (nth [agg 2 (nth u4),AV.bool (aU p v)]))) [u5,AObj.map (esF p.rules.l),cO (List.length l*2) (bV l),ab l 0,ab l 1,ab l 2,ab l 3,ab l 4,ab l 5,ab l 6,ab l 7,ab l 8,ab l 9,ab l 10,ab l 11,ab l 12,ab l 13,ab l 14,ab l 15,ab l 16,ab l 17,ab l 18,ab l 19,ab l 20,ab l 21,ab l 22,ab l 23,u7,cO (List.length (aj p v).atoms*1) fun a=>af (aj p v).atoms a] g)/\2<=2/\(∀(c:Nat),c<2->nth u4 c=al (nth [i6 0,fz Fz.nil 0 0 fun x x_1=>any]) 0 2 (List.brecOn (motive:=fun (x:List AV)=>Nat->AV) u4 nth._f) c)/\(aU p v=true->2<=2/\(true=true/\Does Tryd.prog R 68 [agg 2 (nth u4)] (u5::u2) g (ret (ifc 149 (agg 2 (nth u4)))) (u5::u2) g)/\(true=true/\true=true/\Does Tryd.prog R 141 [agg 2 (nth u4),ref 0 0] (u5::u2) g (ret (tup 0 (nth []))) (cO 27 (ae p (fS p v (eO (aj p v))) (AV.mp 1))::u2) g)/\2<=2/\0<2/\(List.length l+1)*32<=aC/\List.length l+1<=aC/\2<=2/\List.length l*2<=List.length l*2/\(∀(c:Nat),c<(List.length l+1)*2->ey l (aj p v) c=aZ 2 (List.length l) (fun (i j:Nat)=>bV l (i*2+j)) (fun (i j:Nat)=>al (fun (j:Nat)=>nth [i6 0,fz Fz.nil 0 0 fun x x_1=>any] (j%2)) 0 2 (List.brecOn (motive:=fun (x:List AV)=>Nat->AV) u4 nth._f) (0+i*2+j)) c)/\Flw Tryd.prog/\26<=27/\24<=24/\OpOk Tryd.prog R (Oper.mk (some 34) (Op.binOp BinOp.eql 95 (Operand.tmp 32) (Operand.tmp 33) 95) 4 "table.go:195" #[Edge.mk 3 Ground.data,Edge.mk 4 Ground.data] none) (evO [Row.mk (some 33) none (agg 24 (al (nth u3) 0 24 fun j=>ae p v (AV.mp 1) (j+2))) false (some []) [27],Row.mk (some 32) none (agg 24 fun j=>ae p (fS p v (eO (aj p v))) (AV.mp 1) (j+2)) false (some []) [0],Row.mk (some 31) none (ref 0 2) false (some []) [],Row.mk (some 30) none (ref 0 0) false (some []) [],Row.mk (some 29) none (ref 0 0) false (some []) []] [(4,ref 0 0),(5,ow true 31 (List.length l+1) 2),(6,ref 27 0)] []) u1 g (AV.bool false) u1 g/\(false=true->WpC Tryd.prog R 37 0 60 [1,1,1,0,0,0,1,1,1,0] Q [Kont.blk 1] u6)/\(false=false->Q AEx.normal u6))/\(aU p v=false->WpC Tryd.prog R 37 0 60 [1,1,1,0,0,0,1,0,1,1,1] Q [Kont.seq [1,1,1,0,0,0,1,1],Kont.blk 1] (St.mk [(4,ref 0 0),(5,ow true 2 (List.length l) 2),(6,ref 27 0),(7,ref 29 0),(20,AV.bool (aU p v))] (u5::u2) g))) (cO 24 (al (nth u3) 0 24 fun j=>ae p v (AV.mp 1) (j+2)))) (St.mk [(4,ref 0 0),(5,ow true 31 (List.length l+1) 2),(34,AV.bool false)] u1 g)) (cO 27 (ae p v (AV.mp 1)))) ([i6 (aj p v).rule,ow true 28 (List.length (aj p v).atoms) 1])) ([i6 0,i6 0,i6 0,i6 0,i6 0,i6 0,i6 0,i6 0,i6 0,i6 0,i6 0,i6 0,i6 0,i6 0,i6 0,i6 0,i6 0,i6 0,i6 0,i6 0,i6 0,i6 0,i6 0,i6 0])) ([AObj.map (esF p.rules.l),cO (List.length l*2) (bV l),ab l 0,ab l 1,ab l 2,ab l 3,ab l 4,ab l 5,ab l 6,ab l 7,ab l 8,ab l 9,ab l 10,ab l 11,ab l 12,ab l 13,ab l 14,ab l 15,ab l 16,ab l 17,ab l 18,ab l 19,ab l 20,ab l 21,ab l 22,ab l 23,cO 24 (al (nth [i6 0,i6 0,i6 0,i6 0,i6 0,i6 0,i6 0,i6 0,i6 0,i6 0,i6 0,i6 0,i6 0,i6 0,i6 0,i6 0,i6 0,i6 0,i6 0,i6 0,i6 0,i6 0,i6 0,i6 0]) 0 24 fun j=>ae p v (AV.mp 1) (j+2)),cO (List.length (aj p v).atoms*1) fun a=>af (aj p v).atoms a,cO 2 (nth [i6 (aj p v).rule,ow true 28 (List.length (aj p v).atoms) 1])])) ([cO 27 (ae p (fS p v (eO (aj p v))) (AV.mp 1)),AObj.map (esF p.rules.l),dead,ab l 0,ab l 1,ab l 2,ab l 3,ab l 4,ab l 5,ab l 6,ab l 7,ab l 8,ab l 9,ab l 10,ab l 11,ab l 12,ab l 13,ab l 14,ab l 15,ab l 16,ab l 17,ab l 18,ab l 19,ab l 20,ab l 21,ab l 22,ab l 23,cO 24 (al (nth [i6 0,i6 0,i6 0,i6 0,i6 0,i6 0,i6 0,i6 0,i6 0,i6 0,i6 0,i6 0,i6 0,i6 0,i6 0,i6 0,i6 0,i6 0,i6 0,i6 0,i6 0,i6 0,i6 0,i6 0]) 0 24 fun j=>ae p v (AV.mp 1) (j+2)),cO (List.length (aj p v).atoms*1) fun a=>af (aj p v).atoms a,cO 2 (nth [i6 (aj p v).rule,ow true 28 (List.length (aj p v).atoms) 1]),cO 2 (al (fun (j:Nat)=>nth [i6 0,fz Fz.nil 0 0 fun x x_1=>any] (j%2)) 0 2 (List.brecOn (motive:=fun (x:List AV)=>Nat->AV) [i6 (aj p v).rule,ow true 28 (List.length (aj p v).atoms) 1] nth._f)),cO ((List.length l+1)*2) (ey l (aj p v))])) ⟨omg,omg,⟨rfl,(doT (T:=LT) [0,1] 28 (fun R _ g=>ov R (p) (v) (esF p.rules.l) omg omg omg omg g) (e3:=by exact⟨⟨rfl,Nat.le_refl _,fun j hj=>(by first|exact bK (by first|exact trivial|apply aW)|exact Bt (cx rfl)|exact Bt (cb (by rfl)))⟩,rfl,Bu,Bu,Bu,Bu,Bu,Bu,Bu,Bu,Bu,Bu,Bu,Bu,Bu,Bu,Bu,Bu,Bu,Bu,Bu,Bu,Bu,Bu,Bu,Bu,Bu,Bu,⟨rfl,Nat.le_refl _,fun j hj=>(by first|exact bK (by first|exact trivial|apply d7)|exact Bt (fP rfl))⟩,trivial⟩))⟩,omg,(fun c hc=>match c,hc with|0,_=>krf|1,_=>krf ),fun _=>⟨omg,⟨rfl,(doT (T:=LT) [28] 30 (fun R _ g=>yX R ((aj p v).rule) (List.length (aj p v).atoms) (List.length (aj p v).atoms*1) (fun (a:Nat)=>af (aj p v).atoms a) ?_ omg g) (e2:=by exact(Le.ifc (Bx (fun i hi=>match i,hi with|0,_=>(Bs _)|1,_=>(Bs _) )))) (e3:=by exact⟨Bu,rfl,Bu,Bu,Bu,Bu,Bu,Bu,Bu,Bu,Bu,Bu,Bu,Bu,Bu,Bu,Bu,Bu,Bu,Bu,Bu,Bu,Bu,Bu,Bu,Bu,Bu,Bu,⟨rfl,Nat.le_refl _,fun j hj=>(by first|exact bK (by first|exact trivial|apply d7)|exact Bt (fP rfl))⟩,Bu,trivial⟩))⟩,⟨krf,rfl,(doT (T:=LT) [0,1,28] 30 (fun R _ g=>yP R (p) (v) (esF p.rules.l) (aj p v) omg omg omg g) (e3:=by exact⟨⟨rfl,Nat.le_refl _,fun j hj=>(by first|exact bK (by first|exact trivial|apply aW)|exact Bt (cx rfl)|exact Bt (cb (by rfl)))⟩,rfl,Bu,Bu,Bu,Bu,Bu,Bu,Bu,Bu,Bu,Bu,Bu,Bu,Bu,Bu,Bu,Bu,Bu,Bu,Bu,Bu,Bu,Bu,Bu,Bu,Bu,Bu,⟨rfl,Nat.le_refl _,fun j hj=>(by first|exact bK (by first|exact trivial|apply d7)|exact Bt (fP rfl))⟩,Bu,trivial⟩))⟩,omg,omg,omg,omg,omg,omg,?_,krf,omg,omg,?_,fun h=>(nomatch h),fun _=>?_⟩,fun hcc=>(nomatch (hb.symm.trans hcc))⟩
    ·exact fun j _=>d7 _ _
    ·exact fun c hc=>(sn (z:=fun j=>nth [.int .i64 0,.fz .nil 0 0 fun _ _=>.any] (j%2)) hc).trans krf
    ·rw[<-k2]
     exact oE (x:=.tmp 32) (y:=.tmp 33) (bq v (aj p v)) v false rfl (by intro h;cases h) oF oG (sq hp hr hh hb)
    ·rw[<-k2]
     have hlt:=lV hp hr hh hb
     refine aO (bq v (aj p v),l++[aj p v]) (d5 (dJ l.length) 32 rfl (j9 omg).1 (j9 omg).2.1 rfl rfl ⟨Bs _,Bt (by show _=AV.ow true 31 (l++[aj p v]).length 2;rw[List.length_append];rfl),trivial⟩ (by exact so omg)) (sr hb hlt h1 h2 h3) hlt
   ·obtain⟨k0,k1,k2,k3,_⟩:=j5 hp hf hb
    have k4:decide ((aj p v).rule = -1)=true:=decide_eq_true (by rw[k0])
    have hal:0<(aj p v).atoms.length:=by
     unfold dd at k1
     rw[Bool.and_eq_true] at k1
     exact of_decide_eq_true k1.1
    refine vcR [[1,1,1,0,0,0,1,1,1,0],[1,1,1,0,0,0,1,0,1,1,1]] (lkL [(3,[4,5,6]),(4,[4,5,6,7,8]),(5,[4,5,6,7,20]),(6,[4,5,6,7]),(7,[4,5,6]),(8,[4,5,34])]) (lkL [(4,[(1,ROrc.call (tup 2 (nth [agg 2 (nth [i6 (aj p v).rule,ow true 28 (List.length (aj p v).atoms) 1]),AV.bool (aU p v)])) [cO 27 (ae p v (AV.mp 1)),AObj.map (esF p.rules.l),cO (List.length l*2) (bV l),ab l 0,ab l 1,ab l 2,ab l 3,ab l 4,ab l 5,ab l 6,ab l 7,ab l 8,ab l 9,ab l 10,ab l 11,ab l 12,ab l 13,ab l 14,ab l 15,ab l 16,ab l 17,ab l 18,ab l 19,ab l 20,ab l 21,ab l 22,ab l 23,cO 24 (al (nth [i6 0,i6 0,i6 0,i6 0,i6 0,i6 0,i6 0,i6 0,i6 0,i6 0,i6 0,i6 0,i6 0,i6 0,i6 0,i6 0,i6 0,i6 0,i6 0,i6 0,i6 0,i6 0,i6 0,i6 0]) 0 24 fun (j:Nat)=>ae p v (AV.mp 1) (j+2)),cO (List.length (aj p v).atoms*1) (af (aj p v).atoms)] g),(6,ROrc.val (Orc.obj (nth [i6 (aj p v).rule,ow true 28 (List.length (aj p v).atoms) 1])))]),(6,[(1,ROrc.kcall (ifc 148 (agg 2 (nth [i6 (aj p v).rule,ow true 28 (List.length (aj p v).atoms) 1])))),(3,ROrc.inv (tup 0 (nth [])) [cO 27 (ae p (cc v (aV (aj p v).atoms)) (AV.mp 1)),AObj.map (esF p.rules.l),cO (List.length l*2) (bV l),ab l 0,ab l 1,ab l 2,ab l 3,ab l 4,ab l 5,ab l 6,ab l 7,ab l 8,ab l 9,ab l 10,ab l 11,ab l 12,ab l 13,ab l 14,ab l 15,ab l 16,ab l 17,ab l 18,ab l 19,ab l 20,ab l 21,ab l 22,ab l 23,cO 24 (al (nth [i6 0,i6 0,i6 0,i6 0,i6 0,i6 0,i6 0,i6 0,i6 0,i6 0,i6 0,i6 0,i6 0,i6 0,i6 0,i6 0,i6 0,i6 0,i6 0,i6 0,i6 0,i6 0,i6 0,i6 0]) 0 24 fun (j:Nat)=>ae p v (AV.mp 1) (j+2)),cO (List.length (aj p v).atoms*1) fun (a:Nat)=>af (aj p v).atoms a,cO 2 (nth [i6 (aj p v).rule,ow true 28 (List.length (aj p v).atoms) 1])] g)]),(7,[(3,ROrc.val (Orc.obj (ey l (aj p v))))]),(8,[(5,ROrc.kop (AV.bool false))])]) (fun Q=>(fun (u1:List AObj)=>(fun (u2:List AObj)=>(fun (u3:List AV)=>(fun (u4:List AV)=>(fun (u5:AObj)=>(fun (u6:St R.σ)=>(fun (u7:AObj)=>26<=27/\24<=24/\(true=true/\Does Tryd.prog R 96 [ref 0 0] [u5,AObj.map (esF p.rules.l),cO (List.length l*2) (bV l),ab l 0,ab l 1,ab l 2,ab l 3,ab l 4,ab l 5,ab l 6,ab l 7,ab l 8,ab l 9,ab l 10,ab l 11,ab l 12,ab l 13,ab l 14,ab l 15,ab l 16,ab l 17,ab l 18,ab l 19,ab l 20,ab l 21,ab l 22,ab l 23,u7] g (ret (tup 2 (nth [agg 2 (nth u4),AV.bool (aU p v)]))) [u5,AObj.map (esF p.rules.l),cO (List.length l*2) (bV l),ab l 0,ab l 1,ab l 2,ab l 3,ab l 4,ab l 5,ab l 6,ab l 7,ab l 8,ab l 9,ab l 10,ab l 11,ab l 12,ab l 13,ab l 14,ab l 15,ab l 16,ab l 17,ab l 18,ab l 19,ab l 20,ab l 21,ab l 22,ab l 23,u7,cO (List.length (aj p v).atoms*1) fun a=>af (aj p v).atoms a] g)/\2<=2/\(∀(c:Nat),c<2->nth u4 c=al (nth [i6 0,fz Fz.nil 0 0 fun x x_1=>any]) 0 2 (List.brecOn (motive:=fun (x:List AV)=>Nat->AV) u4 nth._f) c)/\(aU p v=true->2<=2/\(true=true/\Does Tryd.prog R 68 [agg 2 (nth u4)] (u5::u2) g (ret (ifc 148 (agg 2 (nth u4)))) (u5::u2) g)/\(true=true/\true=true/\Does Tryd.prog R 139 [agg 2 (nth u4),ref 0 0] (u5::u2) g (ret (tup 0 (nth []))) (cO 27 (ae p (cc v (aV (aj p v).atoms)) (AV.mp 1))::u2) g)/\2<=2/\0<2/\(List.length l+1)*32<=aC/\List.length l+1<=aC/\2<=2/\List.length l*2<=List.length l*2/\(∀(c:Nat),c<(List.length l+1)*2->ey l (aj p v) c=aZ 2 (List.length l) (fun (i j:Nat)=>bV l (i*2+j)) (fun (i j:Nat)=>al (fun (j:Nat)=>nth [i6 0,fz Fz.nil 0 0 fun x x_1=>any] (j%2)) 0 2 (List.brecOn (motive:=fun (x:List AV)=>Nat->AV) u4 nth._f) (0+i*2+j)) c)/\Flw Tryd.prog/\26<=27/\24<=24/\OpOk Tryd.prog R (Oper.mk (some 34) (Op.binOp BinOp.eql 95 (Operand.tmp 32) (Operand.tmp 33) 95) 4 "table.go:195" #[Edge.mk 3 Ground.data,Edge.mk 4 Ground.data] none) (evO [Row.mk (some 33) none (agg 24 (al (nth u3) 0 24 fun j=>ae p v (AV.mp 1) (j+2))) false (some []) [27],Row.mk (some 32) none (agg 24 fun j=>ae p (cc v (aV (aj p v).atoms)) (AV.mp 1) (j+2)) false (some []) [0],Row.mk (some 31) none (ref 0 2) false (some []) [],Row.mk (some 30) none (ref 0 0) false (some []) [],Row.mk (some 29) none (ref 0 0) false (some []) []] [(4,ref 0 0),(5,ow true 31 (List.length l+1) 2),(6,ref 27 0)] []) u1 g (AV.bool false) u1 g/\(false=true->WpC Tryd.prog R 37 0 60 [1,1,1,0,0,0,1,1,1,0] Q [Kont.blk 1] u6)/\(false=false->Q AEx.normal u6))/\(aU p v=false->WpC Tryd.prog R 37 0 60 [1,1,1,0,0,0,1,0,1,1,1] Q [Kont.seq [1,1,1,0,0,0,1,1],Kont.blk 1] (St.mk [(4,ref 0 0),(5,ow true 2 (List.length l) 2),(6,ref 27 0),(7,ref 29 0),(20,AV.bool (aU p v))] (u5::u2) g))) (cO 24 (al (nth u3) 0 24 fun j=>ae p v (AV.mp 1) (j+2)))) (St.mk [(4,ref 0 0),(5,ow true 31 (List.length l+1) 2),(34,AV.bool false)] u1 g)) (cO 27 (ae p v (AV.mp 1)))) ([i6 (aj p v).rule,ow true 28 (List.length (aj p v).atoms) 1])) ([i6 0,i6 0,i6 0,i6 0,i6 0,i6 0,i6 0,i6 0,i6 0,i6 0,i6 0,i6 0,i6 0,i6 0,i6 0,i6 0,i6 0,i6 0,i6 0,i6 0,i6 0,i6 0,i6 0,i6 0])) ([AObj.map (esF p.rules.l),cO (List.length l*2) (bV l),ab l 0,ab l 1,ab l 2,ab l 3,ab l 4,ab l 5,ab l 6,ab l 7,ab l 8,ab l 9,ab l 10,ab l 11,ab l 12,ab l 13,ab l 14,ab l 15,ab l 16,ab l 17,ab l 18,ab l 19,ab l 20,ab l 21,ab l 22,ab l 23,cO 24 (al (nth [i6 0,i6 0,i6 0,i6 0,i6 0,i6 0,i6 0,i6 0,i6 0,i6 0,i6 0,i6 0,i6 0,i6 0,i6 0,i6 0,i6 0,i6 0,i6 0,i6 0,i6 0,i6 0,i6 0,i6 0]) 0 24 fun j=>ae p v (AV.mp 1) (j+2)),cO (List.length (aj p v).atoms*1) fun a=>af (aj p v).atoms a,cO 2 (nth [i6 (aj p v).rule,ow true 28 (List.length (aj p v).atoms) 1])])) ([cO 27 (ae p (cc v (aV (aj p v).atoms)) (AV.mp 1)),AObj.map (esF p.rules.l),dead,ab l 0,ab l 1,ab l 2,ab l 3,ab l 4,ab l 5,ab l 6,ab l 7,ab l 8,ab l 9,ab l 10,ab l 11,ab l 12,ab l 13,ab l 14,ab l 15,ab l 16,ab l 17,ab l 18,ab l 19,ab l 20,ab l 21,ab l 22,ab l 23,cO 24 (al (nth [i6 0,i6 0,i6 0,i6 0,i6 0,i6 0,i6 0,i6 0,i6 0,i6 0,i6 0,i6 0,i6 0,i6 0,i6 0,i6 0,i6 0,i6 0,i6 0,i6 0,i6 0,i6 0,i6 0,i6 0]) 0 24 fun j=>ae p v (AV.mp 1) (j+2)),cO (List.length (aj p v).atoms*1) fun a=>af (aj p v).atoms a,cO 2 (nth [i6 (aj p v).rule,ow true 28 (List.length (aj p v).atoms) 1]),cO 2 (al (fun (j:Nat)=>nth [i6 0,fz Fz.nil 0 0 fun x x_1=>any] (j%2)) 0 2 (List.brecOn (motive:=fun (x:List AV)=>Nat->AV) [i6 (aj p v).rule,ow true 28 (List.length (aj p v).atoms) 1] nth._f)),cO ((List.length l+1)*2) (ey l (aj p v))])) ⟨omg,omg,⟨rfl,(doT (T:=LT) [0,1] 28 (fun R _ g=>ov R (p) (v) (esF p.rules.l) omg omg omg omg g) (e3:=by exact⟨⟨rfl,Nat.le_refl _,fun j hj=>(by first|exact bK (by first|exact trivial|apply aW)|exact Bt (cx rfl)|exact Bt (cb (by rfl)))⟩,rfl,Bu,Bu,Bu,Bu,Bu,Bu,Bu,Bu,Bu,Bu,Bu,Bu,Bu,Bu,Bu,Bu,Bu,Bu,Bu,Bu,Bu,Bu,Bu,Bu,Bu,Bu,⟨rfl,Nat.le_refl _,fun j hj=>(by first|exact bK (by first|exact trivial|apply d7)|exact Bt (fP rfl))⟩,trivial⟩))⟩,omg,(fun c hc=>match c,hc with|0,_=>krf|1,_=>krf ),fun _=>⟨omg,⟨rfl,(doT (T:=LT) [28] 30 (fun R _ g=>yW R ((aj p v).rule) (List.length (aj p v).atoms) (List.length (aj p v).atoms*1) (fun (a:Nat)=>af (aj p v).atoms a) ?_ omg g) (e2:=by exact(Le.ifc (Bx (fun i hi=>match i,hi with|0,_=>(Bs _)|1,_=>(Bs _) )))) (e3:=by exact⟨Bu,rfl,Bu,Bu,Bu,Bu,Bu,Bu,Bu,Bu,Bu,Bu,Bu,Bu,Bu,Bu,Bu,Bu,Bu,Bu,Bu,Bu,Bu,Bu,Bu,Bu,Bu,Bu,⟨rfl,Nat.le_refl _,fun j hj=>(by first|exact bK (by first|exact trivial|apply d7)|exact Bt (fP rfl))⟩,Bu,trivial⟩))⟩,⟨krf,rfl,(doT (T:=LT) [0,1,28] 30 (fun R _ g=>yQ R (p) (v) (esF p.rules.l) (aj p v) omg omg omg omg omg omg omg g) (e3:=by exact⟨⟨rfl,Nat.le_refl _,fun j hj=>(by first|exact bK (by first|exact trivial|apply aW)|exact Bt (cx rfl)|exact Bt (cb (by rfl)))⟩,rfl,Bu,Bu,Bu,Bu,Bu,Bu,Bu,Bu,Bu,Bu,Bu,Bu,Bu,Bu,Bu,Bu,Bu,Bu,Bu,Bu,Bu,Bu,Bu,Bu,Bu,Bu,⟨rfl,Nat.le_refl _,fun j hj=>(by first|exact bK (by first|exact trivial|apply d7)|exact Bt (fP rfl))⟩,Bu,trivial⟩))⟩,omg,omg,omg,omg,omg,omg,?_,krf,omg,omg,?_,fun h=>(nomatch h),fun _=>?_⟩,fun hcc=>(nomatch (hb.symm.trans hcc))⟩
    ·exact fun j _=>d7 _ _
    ·exact fun c hc=>(sn (z:=fun j=>nth [.int .i64 0,.fz .nil 0 0 fun _ _=>.any] (j%2)) hc).trans krf
    ·rw[<-k3]
     exact oE (x:=.tmp 32) (y:=.tmp 33) (bq v (aj p v)) v false rfl (by intro h;cases h) oF oG (sq hp hr hh hb)
    ·rw[<-k3]
     have hlt:=lV hp hr hh hb
     refine aO (bq v (aj p v),l++[aj p v]) (d5 (dJ l.length) 32 rfl (j9 omg).1 (j9 omg).2.1 rfl rfl ⟨Bs _,Bt (by show _=AV.ow true 31 (l++[aj p v]).length 2;rw[List.length_append];rfl),trivial⟩ (by exact so omg)) (sr hb hlt h1 h2 h3) hlt
  |false=>
   have e:ak p=(l,v):=by
    obtain⟨f,rfl⟩:∃k,f=k+1:=⟨f-1,omg⟩
    rw[<-h3]
    show(if aU p v then _ else _)=_
    rw[if_neg (by rw[hb];decide)]
   rw[e]
   refine vcR [[1,1,1,0,0,0,1,0,1,1,0],[1,1,1,0,0,0,1,1,1,1]] (lkL [(3,[4,5,6]),(4,[4,5,6,7,8]),(5,[4,5,6,7,20]),(8,[4,5,34]),(9,[2,3])]) (lkL [(4,[(1,ROrc.call (tup 2 (nth [agg 2 (nth [i6 (aj p v).rule,ow true 28 (List.length (aj p v).atoms) 1]),AV.bool (aU p v)])) [cO 27 (ae p v (AV.mp 1)),AObj.map (esF p.rules.l),cO (List.length l*2) (bV l),ab l 0,ab l 1,ab l 2,ab l 3,ab l 4,ab l 5,ab l 6,ab l 7,ab l 8,ab l 9,ab l 10,ab l 11,ab l 12,ab l 13,ab l 14,ab l 15,ab l 16,ab l 17,ab l 18,ab l 19,ab l 20,ab l 21,ab l 22,ab l 23,cO 24 (al (nth [i6 0,i6 0,i6 0,i6 0,i6 0,i6 0,i6 0,i6 0,i6 0,i6 0,i6 0,i6 0,i6 0,i6 0,i6 0,i6 0,i6 0,i6 0,i6 0,i6 0,i6 0,i6 0,i6 0,i6 0]) 0 24 fun (j:Nat)=>ae p v (AV.mp 1) (j+2)),cO (List.length (aj p v).atoms*1) (af (aj p v).atoms)] g),(6,ROrc.val (Orc.obj (nth [i6 (aj p v).rule,ow true 28 (List.length (aj p v).atoms) 1])))]),(8,[(5,ROrc.kop (AV.bool true))])]) (fun Q=>(fun (u1:List AObj)=>(fun (u2:List AV)=>(fun (u3:List AV)=>(fun (u4:List (Nat × AV))=>(fun (u5:AObj)=>26<=27/\24<=24/\(true=true/\Does Tryd.prog R 96 [ref 0 0] [cO 27 (ae p v (AV.mp 1)),AObj.map (esF p.rules.l),cO (List.length l*2) (bV l),ab l 0,ab l 1,ab l 2,ab l 3,ab l 4,ab l 5,ab l 6,ab l 7,ab l 8,ab l 9,ab l 10,ab l 11,ab l 12,ab l 13,ab l 14,ab l 15,ab l 16,ab l 17,ab l 18,ab l 19,ab l 20,ab l 21,ab l 22,ab l 23,u5] g (ret (tup 2 (nth [agg 2 (nth u3),AV.bool (aU p v)]))) [cO 27 (ae p v (AV.mp 1)),AObj.map (esF p.rules.l),cO (List.length l*2) (bV l),ab l 0,ab l 1,ab l 2,ab l 3,ab l 4,ab l 5,ab l 6,ab l 7,ab l 8,ab l 9,ab l 10,ab l 11,ab l 12,ab l 13,ab l 14,ab l 15,ab l 16,ab l 17,ab l 18,ab l 19,ab l 20,ab l 21,ab l 22,ab l 23,u5,cO (List.length (aj p v).atoms*1) fun a=>af (aj p v).atoms a] g)/\2<=2/\(∀(c:Nat),c<2->nth u3 c=al (nth [i6 0,fz Fz.nil 0 0 fun x x_1=>any]) 0 2 (List.brecOn (motive:=fun (x:List AV)=>Nat->AV) u3 nth._f) c)/\(aU p v=true->WpC Tryd.prog R 37 0 60 [1,1,1,0,0,0,1,0,1,1,0] Q [Kont.seq [1,1,1,0,0,0,1,1],Kont.blk 1] (St.mk u4 u1 g))/\(aU p v=false->Flw Tryd.prog/\26<=27/\24<=24/\OpOk Tryd.prog R (Oper.mk (some 34) (Op.binOp BinOp.eql 95 (Operand.tmp 32) (Operand.tmp 33) 95) 4 "table.go:195" #[Edge.mk 3 Ground.data,Edge.mk 4 Ground.data] none) (evO [Row.mk (some 33) none (agg 24 (al (nth u2) 0 24 fun j=>ae p v (AV.mp 1) (j+2))) false (some []) [27],Row.mk (some 32) none (agg 24 fun j=>ae p v (AV.mp 1) (j+2)) false (some []) [0],Row.mk (some 31) none (ref 0 2) false (some []) [],Row.mk (some 30) none (ref 0 0) false (some []) [],Row.mk (some 29) none (ref 0 0) false (some []) []] u4 []) u1 g (AV.bool true) u1 g/\(true=true->Q AEx.ret (St.mk [(2,ow true 2 (List.length l) 2),(3,ref 0 0)] u1 g))/\(true=false->WpC Tryd.prog R 37 0 60 [1,1,1,0,0,0,1,1,1,1] Q [Kont.blk 1] (St.mk [(4,ref 0 0),(5,ow true 2 (List.length l) 2),(34,AV.bool true)] u1 g)))) (cO 24 (al (nth u2) 0 24 fun j=>ae p v (AV.mp 1) (j+2)))) ([(4,ref 0 0),(5,ow true 2 (List.length l) 2),(6,ref 27 0),(7,ref 29 0),(20,AV.bool (aU p v))])) ([i6 (aj p v).rule,ow true 28 (List.length (aj p v).atoms) 1])) ([i6 0,i6 0,i6 0,i6 0,i6 0,i6 0,i6 0,i6 0,i6 0,i6 0,i6 0,i6 0,i6 0,i6 0,i6 0,i6 0,i6 0,i6 0,i6 0,i6 0,i6 0,i6 0,i6 0,i6 0])) ([cO 27 (ae p v (AV.mp 1)),AObj.map (esF p.rules.l),cO (List.length l*2) (bV l),ab l 0,ab l 1,ab l 2,ab l 3,ab l 4,ab l 5,ab l 6,ab l 7,ab l 8,ab l 9,ab l 10,ab l 11,ab l 12,ab l 13,ab l 14,ab l 15,ab l 16,ab l 17,ab l 18,ab l 19,ab l 20,ab l 21,ab l 22,ab l 23,cO 24 (al (nth [i6 0,i6 0,i6 0,i6 0,i6 0,i6 0,i6 0,i6 0,i6 0,i6 0,i6 0,i6 0,i6 0,i6 0,i6 0,i6 0,i6 0,i6 0,i6 0,i6 0,i6 0,i6 0,i6 0,i6 0]) 0 24 fun j=>ae p v (AV.mp 1) (j+2)),cO (List.length (aj p v).atoms*1) fun a=>af (aj p v).atoms a,cO 2 (nth [i6 (aj p v).rule,ow true 28 (List.length (aj p v).atoms) 1])])) ⟨omg,omg,⟨rfl,(doT (T:=LT) [0,1] 28 (fun R _ g=>ov R (p) (v) (esF p.rules.l) omg omg omg omg g) (e3:=by exact⟨⟨rfl,Nat.le_refl _,fun j hj=>(by first|exact bK (by first|exact trivial|apply aW)|exact Bt (cx rfl)|exact Bt (cb (by rfl)))⟩,rfl,Bu,Bu,Bu,Bu,Bu,Bu,Bu,Bu,Bu,Bu,Bu,Bu,Bu,Bu,Bu,Bu,Bu,Bu,Bu,Bu,Bu,Bu,Bu,Bu,Bu,Bu,⟨rfl,Nat.le_refl _,fun j hj=>(by first|exact bK (by first|exact trivial|apply d7)|exact Bt (fP rfl))⟩,trivial⟩))⟩,omg,(fun c hc=>match c,hc with|0,_=>krf|1,_=>krf ),fun hcc=>(nomatch (hb.symm.trans hcc)),fun _=>⟨krf,omg,omg,?_,fun _=>?_,fun h=>(nomatch h)⟩⟩
   ·exact oE (x:=.tmp 32) (y:=.tmp 33) v v true rfl (by intro h;cases h) oF oG (by simp)
   ·refine⟨_,BE _,(aq (bS 27 _ _ rfl trivial omg ⟨⟨trivial,(show 3<=27 by omega)⟩,(show 1<=27 by omega)⟩ ⟨(fun _ _=>(by first|exact trivial|apply aW)),(fun _ _=>?_),(fun _ _=>trivial),(fun _ _=>trivial),(fun _ _=>trivial),(fun _ _=>trivial),(fun _ _=>trivial),(fun _ _=>trivial),(fun _ _=>trivial),(fun _ _=>trivial),(fun _ _=>trivial),(fun _ _=>trivial),(fun _ _=>trivial),(fun _ _=>trivial),(fun _ _=>trivial),(fun _ _=>trivial),(fun _ _=>trivial),(fun _ _=>trivial),(fun _ _=>trivial),(fun _ _=>trivial),(fun _ _=>trivial),(fun _ _=>trivial),(fun _ _=>trivial),(fun _ _=>trivial),(fun _ _=>trivial),(fun _ _=>trivial),trivial⟩ krf rfl rfl) (Bs _))⟩
    exact y0 omg (by assumption)
def aN (v:Nat->Int):Nat->AV:=fun j=>if 2<=j/\j<26 then .int .i64 (v (j-2)) else .any
theorem lu {k:Nat}(v:Nat->Int)(j:Nat):Below k (aN v j):=by
 unfold aN
 split <;> trivial
theorem dv {f:Nat->Nat}(h:True){v:Nat->Int}{j:Nat}:aK f (aN v j)=aN v j:=by
 unfold aN
 split <;> rfl
theorem oH {v:Nat->Int}{k j:Nat}(e:k=j+2)(h:j<24):aN v k=.int .i64 (v j):=by
 subst e
 unfold aN
 rw[if_pos omg]
 rfl
theorem sw {p:Prg}{v:Nat->Int}{m:AV}{j:Nat}:Le (ae p v m j) (aN v j):=by
 unfold aN
 split
 ·rename_i h
  exact Bt (d8 omg omg)
 ·exact Le.any _
def a8 (s:Stp):Step:=⟨s.rule,s.atoms,.auto⟩
def aA (l:List Stp):KL Step:=⟨l.map a8,.auto⟩
theorem ka (l:List Stp):(aA l).l.length=l.length:=by unfold aA;rw[List.length_map]
theorem oI {l:List Stp}{i:Nat}(hi:i<l.length):(aA l).l.getD i default=a8 (l.getD i default):=by
 unfold aA
 rw[List.getD_eq_getElem?_getD,List.getD_eq_getElem?_getD,List.getElem?_map,List.getElem?_eq_getElem hi]
 rfl
theorem y7 {hp:List AObj}{k m o:Nat}{s:Stp}(ho:ag hp o=cO (s.atoms.length*1) (af s.atoms))(hk:k<=o):ay hp k m (.ow true o s.atoms.length 1) (ah ⟨s.atoms,.auto⟩):=
 (ay.ow ho hk (Nat.le_refl _) dcd (fun j _=>Bz (d7 _ _))).le (By rfl (fun i j hi hj=>by
  show AV.int .i64 _=_
  rw[show i*1+j=i by omega]))
theorem oJ (R:Res)[Tab LT R](p:Prg)(hl:p.rules.l.length<1000000)(hr:∀r,r∈p.rules.l->aE r)(hp:bZ p)(hh:cG p)(g:R.σ):Does Tryd.prog R 60 [av p] [] g (.ret (.tup 2 (nth [aB (aA (ak p).1),.ref 0 0]))) [cO 27 (aN (ak p).2)] g:=by
 refine iH (su R p hl hr hp hh g) ?_
 have hlen:∀i,i<(ak p).1.length->i<24:=fun i hi=>by have:=lW hp hr hh;omega
 refine To.trans (jS 2 [(0,.tup 2 (nth [aB (aA (ak p).1),.ref 0 0]))] (Nat.zero_le _) (by show 2<=27;omega) (fun i hi=>?_) ⟨ay.tup (fun j hj=>?_),trivial⟩) ?_
 ·match i,hi with
  |0,_=>exact fun j hj=>aW p _ 0 j
  |1,_=>trivial
 ·match j,hj with
  |0,_=>
   refine ay.le (ay.ow (o:=2) (N:=(ak p).1.length*2) (c:=bV (ak p).1) (get:=fun c=>bif Nat.beq (c%2) 0 then .int .i64 ((ak p).1.getD (c/2) default).rule else ah ⟨((ak p).1.getD (c/2) default).atoms,.auto⟩) (fr:=false) rfl (Nat.le_refl _) (Nat.le_refl _) dcd (fun c hc=>?_)) ?_
   ·unfold bV
    cases Nat.beq (c%2) 0 with
    |true=>exact Bz trivial
    |false=>exact y7 ((lP (hlen _ omg)).trans rfl) omg
   ·refine By (ka _).symm (fun i j hi hj=>?_)
    show _=cS _ j
    rw[oI hi]
    show(bif Nat.beq ((i*2+j)%2) 0 then _ else _)=_
    rw[show(i*2+j)%2=j by omega,show(i*2+j)/2=i by omega]
    match j,hj with
    |0,_=>rfl
    |1,_=>rfl
  |1,_=>exact Bz (show 0<2 by omega)
 ·exact d5 [0] 2 rfl rfl rfl rfl rfl ⟨Bw (fun j hj=>match j,hj with|0,_=>Bt rfl|1,_=>Bs _),trivial⟩ ⟨⟨rfl,Nat.le_refl _,fun j hj=>by
   show Le (ae p _ (.mp 1) j) (aK _ (aN _ j))
   rw[dv trivial]
   exact sw⟩,trivial⟩
theorem y8 (R:Res)(v:Nat->Int)(n:Nat)(hn:0<n/\n<=24)(g:R.σ):Does Tryd.prog R 61 [.sl 0 2 n 24 true 1] [cO 27 (aN v)] g (.ret (.sl 1 0 n n false 1)) [cO 27 (aN v),cO (n*1) (fun j=>.int .i64 (v j))] g:=by
 have hroom:aC=140737488355328:=rfl
 refine spW (nt:=8) (rs:=[.tmp 2]) (k0:=1) ?_
 refine vcR [[1,0,1,0]] (lkL [(0,[0]),(1,[0,4]),(3,[2])]) (fun _=>[]) (fun Q=>(false=true->WpC Tryd.prog R 8 1 61 [1,0,1,0] Q [Kont.seq [1,1]] (St.mk [(0,sl 0 2 n 24 true 1),(4,AV.bool false)] [cO 27 (aN v)] g))/\(false=false->0<0+n/\0<n/\0<1/\(0+n)*8<=aC/\0+n<=aC/\2+n*1<=27/\0<=0/\Q AEx.ret (St.mk [(2,sl 2 0 (0+n) (0+n) false 1)] [cO 27 (aN v),cO 0 fun j=>i6 0,cO ((0+n)*1) (aZ 1 0 (fun (i j:Nat)=>i6 0) fun i j=>aN v (2+i*1+j))] g))) ⟨fun h=>(nomatch h),fun _=>⟨omg,omg,omg,omg,omg,omg,omg,?_⟩⟩
 refine ff (.sl 2 0 (0+n) (0+n) false 1) _ rfl trivial (toS [0,2] 3 (hfr:=⟨Bt (by show AV.sl 2 0 (0+n) (0+n) false 1=AV.sl 2 0 n n false 1;rw[Nat.zero_add]),trivial⟩) (hob:=⟨BC (fun j hj=>(dv trivial).symm),⟨rfl,by rw[Nat.zero_add];exact Nat.le_refl _,fun c hc=>Bt ?_⟩,trivial⟩))
 show aZ 1 0 _ _ c=AV.int .i64 (v c)
 unfold aZ
 rw[if_neg omg]
 show aN v (2+(c-0*1)/1*1+(c-0*1)%1)=_
 exact oH omg omg
def dh (p:Prg)(v:Nat->Int):KL Int:=⟨(List.range p.atoms.toNat).map v,.opn⟩
theorem y9 (p:Prg)(v:Nat->Int):(dh p v).l.length=p.atoms.toNat:=by unfold dh;rw[List.length_map,List.length_range]
theorem za {p:Prg}{v:Nat->Int}{i:Nat}(hi:i<p.atoms.toNat):(dh p v).l.getD i 0=v i:=by
 unfold dh
 rw[List.getD_eq_getElem?_getD,List.getElem?_map,List.getElem?_range hi]
 rfl
theorem ez {p:Prg}(h:aD p=true):p.rules.l.length<1000000/\(∀r,r∈p.rules.l->aE r)/\bZ p/\cG p/\(∀r,r∈p.rules.l->∀l,l∈r.body.l->0<=l.atom/\l.atom<p.atoms):=by
 unfold aD at h
 simp only[Bool.and_eq_true,decide_eq_true_eq,List.all_eq_true] at h
 obtain⟨h1,h2,h3⟩:=h
 have hr:∀r,r∈p.rules.l->(0<=r.head/\r.head<=p.atoms-1)/\r.body.l.length<=4/\∀l,l∈r.body.l->0<=l.atom/\l.atom<=p.atoms-1:=fun r hm=>by
  have:=h3 r hm
  unfold fk at this
  simp only[Bool.and_eq_true,decide_eq_true_eq,List.all_eq_true] at this
  refine⟨this.1,this.2.1,fun l hl=>?_⟩
  have:=this.2.2 l hl
  unfold eL at this
  exact of_decide_eq_true this
 refine⟨omg,fun r hm=>?_,h1,fun r hm=>?_,fun r hm l hl=>?_⟩
 ·obtain⟨a1,a2,a3⟩:=hr r hm
  refine⟨⟨omg,fun l hl=>?_⟩,a1.1,omg⟩
  have:=a3 l hl
  omega
 ·have:=(hr r hm).1;omega
 ·have:=(hr r hm).2.2 l hl;omega
theorem gZ {p:Prg}(h:aD p=true):eK p:=by
 obtain⟨h1,h2,_⟩:=ez h
 refine⟨h1,fun i=>?_⟩
 rcases Nat.lt_or_ge i p.rules.l.length with hi|hi
 ·exact(h2 _ (bO _ default hi)).1.1
 ·rw[List.getD_eq_getElem?_getD,List.getElem?_eq_none hi]
  exact(by decide:(0:Nat)<1000000)
theorem sz (R:Res)[Tab LT R](p:Prg)(hb:aD p=true)(g:R.σ):Does Tryd.prog R 17 [av p] [] g (.ret (.tup 3 (nth [aB (aA (ak p).1),ah (dh p (ak p).2),.int .i64 0]))) [] g:=by
 obtain⟨hl,hr,hp,hh,hx⟩:=ez hb
 have hs:eK p:=gZ hb
 have hp':1<=p.atoms/\p.atoms<=24:=hp
 refine spW (nt:=23) (rs:=[.tmp 2,.tmp 3,.tmp 4]) (k0:=0) ?_
 have hc:((if aD p then(0:Int) else 2) != 0)=false:=by rw[hb];rfl
 refine vcR [[1,0,1,0]] (lkL [(0,[1]),(1,[1,9]),(3,[1,5,6]),(4,[2,3,4])]) (lkL [(1,[(1,ROrc.pcall (i6 (if aD p=true then 0 else 2)))]),(3,[(1,ROrc.call (tup 2 (nth [fz Fz.auto 2 (List.length (aA (ak p).fst).l) fun (i:Nat)=>cS (List.getD (aA (ak p).fst).l i default),ref 1 0])) [cO 2 (nth [i6 p.atoms,ad p.rules]),cO 27 (aN (ak p).snd)] g)]),(4,[(7,ROrc.callN (sl 2 0 (Int.toNat p.atoms-0) (Int.toNat p.atoms-0) false 1) [] [cO ((Int.toNat p.atoms-0)*1) fun (j:Nat)=>i6 ((ak p).snd j)] g)])]) (fun Q=>(fun (u1:AObj)=>(fun (u2:List AObj)=>(fun (u3:AV)=>(fun (u4:Int)=>(fun (u5:Nat)=>2<=2/\(∀(hp:List AObj) (g:R.σ),true=true/\Does Tryd.prog R 16 [av p] hp g (ret (i6 u4)) hp g)/\((u4 != 0)=true->WpC Tryd.prog R 23 0 17 [1,0,1,0] Q [Kont.seq [1,1]] (St.mk [(1,ref 0 0),(9,AV.bool (u4 != 0))] [u1] g))/\((u4 != 0)=false->2<=2/\(true=true/\Does Tryd.prog R 60 [av p] [u1] g (ret (tup 2 (nth [u3,ref 1 0]))) [u1,cO 27 (aN (ak p).snd)] g)/\Flw Tryd.prog/\1<=2/\(0<=p.atoms/\p.atoms<=(↑24:Int))/\0<24/\26<=27/\0<27/\(true=true/\Does Tryd.prog R 61 [sl 1 2 u5 24 true 1] [u1,cO 27 (aN (ak p).snd)] g (ret (sl 2 0 u5 u5 false 1)) u2 g)/\Q AEx.ret (St.mk [(2,u3),(3,sl 2 0 u5 u5 false 1),(4,i6 0)] u2 g))) (Int.toNat p.atoms-0)) (if aD p=true then 0 else 2)) (fz Fz.auto 2 (List.length (aA (ak p).fst).l) fun i=>cS (List.getD (aA (ak p).fst).l i default))) ([u1,cO 27 (aN (ak p).snd),cO ((Int.toNat p.atoms-0)*1) fun j=>i6 ((ak p).snd j)])) (cO 2 (nth [i6 p.atoms,ad p.rules]))) ⟨omg,(fun _ _=>⟨rfl,(gP _ _ _ _ omg)⟩),fun hcc=>(nomatch (hc.symm.trans hcc)),fun _=>⟨omg,⟨rfl,(doT (T:=LT) [] 1 (fun R _ g=>oJ R (p) omg omg omg omg g))⟩,krf,omg,omg,omg,omg,omg,⟨rfl,(doT (T:=LT) [1] 2 (fun R _ g=>y8 R ((ak p).snd) (Int.toNat p.atoms-0) omg g))⟩,?_⟩⟩
 refine ff (.tup 3 (nth [aB (aA (ak p).1),.sl 2 0 (p.atoms.toNat-0) (p.atoms.toNat-0) false 1,.int .i64 0])) _ rfl trivial (jS 0 [(0,.tup 3 (nth [aB (aA (ak p).1),ah (dh p (ak p).2),.int .i64 0]))] (Nat.le_refl _) (Nat.zero_le _) (fun i hi=>absurd hi (Nat.not_lt_zero i)) ⟨ay.tup (fun j hj=>match j,hj with|0,_=>Bz trivial|1,_=>ay.le (ay.sl (o:=2) (N:=(p.atoms.toNat-0)*1) (c:=fun j=>.int .i64 ((ak p).2 j)) (get:=fun j=>.int .i64 ((ak p).2 j)) (fr:=false) rfl (Nat.zero_le _) omg (Nat.le_refl _) dcd (fun j _=>Bz trivial)) (By (by rw[y9];rfl) (fun i j hi hj=>?_))|2,_=>Bz trivial),trivial⟩)
 have hi':i<p.atoms.toNat:=hi
 rw[za hi',show 0+i*1+j=i by omega]
def hgF (p:Prg):Nat->Nat->Nat->Nat
 |0,_,s=>s
 |n+1,a,s=>if s.testBit a then s else(ofH p.rules.l (a:Int)).foldl (fun (s:Nat) (r:Rule)=>r.body.l.foldl (fun (s:Nat) (l:Lit)=>hgF p n l.atom.toNat s) s) (s|||2^a)
theorem iV {U β:Type}(f:β->U->β)(s:β)(l:List U)(d:U){i:Nat}(h:i<l.length):(l.take (i+1)).foldl f s=f ((l.take i).foldl f s) (l.getD i d):=by
 rw[List.take_add_one,List.foldl_append,List.getElem?_eq_getElem h,List.getD_eq_getElem?_getD,List.getElem?_eq_getElem h]
 rfl
def upS (f:Nat->Nat):Prop:=∀s,s<2^24->ew s (f s)/\f s<2^24
theorem gt {U:Type}{f:Nat->U->Nat}:∀{l:List U},(∀x,x∈l->upS (fun s=>f s x))->upS (fun s=>l.foldl f s)
 |[],_=>fun s hs=>⟨fun _ h=>h,hs⟩
 |x::l,h=>fun s hs=>by
  obtain⟨h1,h2⟩:=h x List.mem_cons_self s hs
  obtain⟨h3,h4⟩:=gt (l:=l) (fun y hy=>h y (List.mem_cons_of_mem _ hy)) _ h2
  exact⟨fun j hj=>h3 j (h1 j hj),h4⟩
theorem kb {s a:Nat}(hs:s<2^24)(ha:a<24):s|||2^a<2^24:=Nat.or_lt_two_pow hs (Nat.pow_lt_pow_right dcd ha)
theorem g4 (s a j:Nat):(s|||2^a).testBit j=(s.testBit j||decide (a=j)):=by
 rw[Nat.testBit_or,Nat.testBit_two_pow]
theorem g5 {p:Prg}(hr:∀r,r∈p.rules.l->aE r):∀(n a:Nat),a<24->upS (hgF p n a)
 |0,_,_=>fun s hs=>⟨fun _ h=>h,hs⟩
 |n+1,a,ha=>fun s hs=>by
  show ew s (if s.testBit a then s else _)/\(if s.testBit a then s else _)<2^24
  by_cases hb:s.testBit a=true
  ·rw[if_pos hb];exact⟨fun _ h=>h,hs⟩
  ·rw[if_neg hb]
   have h:=gt (l:=ofH p.rules.l (a:Int)) (f:=fun (s:Nat) (r:Rule)=>r.body.l.foldl (fun (s:Nat) (l:Lit)=>hgF p n l.atom.toNat s) s) (fun r hm=>gt (fun l hl=>g5 hr n l.atom.toNat (by
    have:=(hr r (List.mem_filter.1 hm).1).1.2 l hl
    omega))) _ (kb hs ha)
   exact⟨fun j hj=>h.1 j (by rw[g4,hj];rfl),h.2⟩
theorem oK {s t:Nat}(h:ew s t):(ai s).length<=(ai t).length:=oA (fun j _ hj=>h j hj)
theorem sA {s a:Nat}(ha:a<24)(h:s.testBit a=false):(ai s).length<(ai (s|||2^a)).length:=
 j6 (fun j _ hj=>by rw[g4,hj];rfl) ⟨a,List.mem_range.2 ha,by rw[g4];simp,h⟩
theorem zb (p:Prg)(v:Nat->Int)(es:List (Value × AV))(hes:HeadsOk es p.rules.l)(hl:p.rules.l.length<1000000)(hr:∀r,r∈p.rules.l->aE r):∀(n:Nat) (R:Res) (a:Int) (s:Nat) (g:R.σ),0<=a/\a<24->s<2^24->24<n+(ai s).length ->
  Does Tryd.prog R 102 [.int .i64 a,.ref 2 0,.ref 3 0,.ref 4 0] [.cells false 27 (ae p v (.mp 1)),.map es,.cells false 1 (fun _=>.int .u64 s),.cells false 1 (fun _=>.ref 0 0),.cells false 1 (fun _=>.fn 102 0 (nth []) 3 (nth [.ref 2 0,.ref 3 0,.ref 4 0]))] g (.ret (.tup 0 (nth []))) [.cells false 27 (ae p v (.mp 1)),.map es,.cells false 1 (fun _=>.int .u64 (hgF p n a.toNat s)),.cells false 1 (fun _=>.ref 0 0),.cells false 1 (fun _=>.fn 102 0 (nth []) 3 (nth [.ref 2 0,.ref 3 0,.ref 4 0]))] g:=by
 intro n
 induction n with
 |zero=>
  intro R a s g _ _ h
  have:=gV s
  omega
 |succ n ih=>
  intro R a s g ha hs hn
  obtain⟨m,hm⟩:∃m:Nat,a=m:=⟨a.toNat,by omega⟩
  subst hm
  have hks:∀e∈es,∃l,Go.keyOf Tryd.prog 3 e.1=some l:=fun e he=>by
   obtain⟨b,e1,e2⟩:=hes.key e he
   rw[e1]
   exact gU e2
  obtain⟨k,hk1,hk2⟩:∃k:Fz,(ofH p.rules.l m=[]->k=.nil)/\(ofH p.rules.l m≠[]->k=.opn):=⟨if ofH p.rules.l m=[] then .nil else .opn,fun h=>if_pos h,fun h=>if_neg h⟩
  have hlf:(ofH p.rules.l m).length<1000000:=Nat.lt_of_le_of_lt (List.length_filter_le _ _) hl
  have hrf:∀r,r∈ofH p.rules.l m->aE r:=fun r h=>hr r (List.mem_filter.1 h |>.1)
  have hdef:hgF p (n+1) ((m:Int).toNat) s=if s.testBit m then s else(ofH p.rules.l (m:Int)).foldl (fun (s:Nat) (r:Rule)=>r.body.l.foldl (fun (s:Nat) (l:Lit)=>hgF p n l.atom.toNat s) s) (s|||2^m):=rfl
  rw[hdef]
  refine dR (nt:=40) (rs:=[]) (k0:=5) (by kernel_rfl) (by kernel_rfl) (by kernel_rfl) rfl ?_
  refine vcQ [] (lkL [(0,[0,1,2,3,11]),(1,[0,2,3]),(2,[3,21,22,23])]) (lkL [(0,[(2,ROrc.pcall (AV.bool (Nat.testBit s m)))]),(1,[(2,ROrc.pcall (int u64 (↑(2^m):Int))),(4,ROrc.val (Orc.obj (nth [int u64 (IntKind.wrap u64 (↑(BitVec.toNat (BitVec.ofInt 64 (s:Int)|||BitVec.ofInt 64 (↑(2^m):Int))):Int))])))]),(2,[(5,ROrc.kop (ad (KL.mk (ofH p.rules.l (m:Int)) k)))])]) (fun Q=>(fun (u1:List AObj)=>(fun (u2:AV)=>(fun (u3:AV)=>(fun (u4:AV)=>1<=1/\(∀(hp:List AObj) (g:R.σ),true=true/\Does Tryd.prog R 71 [int u64 (s:Int),u4] hp g (ret (AV.bool (Nat.testBit s m))) hp g)/\(Nat.testBit s m=true->Q AEx.ret (St.mk [(0,u4),(1,ref 2 0),(2,ref 3 0),(3,ref 4 0),(11,AV.bool (Nat.testBit s m))] [cells false 27 (ae p v (AV.mp 1)),AObj.map es,cells false 1 fun (x:Nat)=>int u64 (s:Int),cells false 1 fun (x:Nat)=>ref 0 0,cells false 1 fun (x:Nat)=>fn 102 0 (nth []) 3 (nth [ref 2 0,ref 3 0,ref 4 0])] g))/\(Nat.testBit s m=false->Tables.follows Tryd.prog.toTables Departure.mixedOrders=true/\1<=1/\(∀(hp:List AObj) (g:R.σ),true=true/\Does Tryd.prog R 79 [u4] hp g (ret (int u64 (↑(2^m):Int))) hp g)/\1<=1/\(∀(c:Nat),c<1->nth [u3] c=al (fun (x:Nat)=>int u64 (s:Int)) 0 1 (fun (x:Nat)=>u3) c)/\1<=1/\27<=27/\OpOk Tryd.prog R (Oper.mk (some 21) (Op.lookup 96 (Operand.tmp 19) (Operand.tmp 20) false) 22 "table.go:248" #[Edge.mk 3 Ground.data,Edge.mk 4 Ground.data] none) (evO [Row.mk (some 20) none u4 false (some []) [],Row.mk (some 19) none (AV.mp 1) false (some []) [0],Row.mk (some 18) none (ref 0 26) false (some []) [],Row.mk (some 17) none (ref 0 0) false (some []) [],Row.mk (some 16) none (ref 0 0) false (some []) [3]] [(0,u4),(2,ref 3 0),(3,ref 4 0)] []) u1 g u2 u1 g/\Wp Tryd.prog R 40 5 Rd.top (aw Tryd.prog 102) [1,1,1,0] (aS Tryd.prog R 40 5 Rd.top (aw Tryd.prog 102) Q [Kont.blk 0]) (St.mk [(3,ref 4 0),(21,u2),(22,int i64 (↑((ofH p.rules.l (m:Int)).length):Int)),(23,int i64 0)] u1 g))) (int i64 (m:Int))) (int u64 (IntKind.wrap u64 (↑(BitVec.toNat (BitVec.ofInt 64 (s:Int)|||BitVec.ofInt 64 (↑(2^m):Int))):Int)))) (fz k 2 ((ofH p.rules.l (m:Int)).length) fun (i:Nat)=>bG ((ofH p.rules.l (m:Int)).getD i default))) ([cells false 27 (ae p v (AV.mp 1)),AObj.map es,cells false 1 (nth [int u64 (IntKind.wrap u64 (↑(BitVec.toNat (BitVec.ofInt 64 (s:Int)|||BitVec.ofInt 64 (↑(2^m):Int))):Int))]),cells false 1 fun (x:Nat)=>ref 0 0,cells false 1 fun (x:Nat)=>fn 102 0 (nth []) 3 (nth [ref 2 0,ref 3 0,ref 4 0])])) (fun _=>by kernel_rfl) ⟨by omega,(fun _ _=>⟨rfl,(jW _ _ _ (by omega) (by omega) _ _)⟩),fun c1=>?_,fun c1=>⟨by kernel_rfl,by omega,(fun _ _=>⟨rfl,(gS _ _ (by omega) _ _)⟩),by omega,(fun c hc=>match c,hc with|0,_=>(by kernel_rfl) ),by omega,by omega,?_,?_⟩⟩
  ·rw[if_pos c1]
   refine(aq (aP _ _ rfl trivial rfl rfl rfl) (Bs _))
  ·by_cases h0:ofH p.rules.l m=[]
   ·rw[hk1 h0,h0]
    exact qY (t:=96) (kt:=3) (vt:=22) (m:=.tmp 19) (x:=.tmp 20) (ob:=1) (es:=es) (kv:=.int .i64 m) rfl (by kernel_rfl) (Go.Maps.int_keyed (q:=.i64) (by kernel_rfl)) rfl (by exact Le.nil) rfl rfl (fun FM Z v h=>h) (gU (by omega)) hks (hes.miss m h0)
   ·rw[hk2 h0]
    exact qX (t:=96) (kt:=3) (vt:=22) (m:=.tmp 19) (x:=.tmp 20) (ob:=1) (es:=es) (kv:=.int .i64 m) (d:=ad ⟨ofH p.rules.l m,.opn⟩) rfl (by kernel_rfl) (Go.Maps.int_keyed (q:=.i64) (by kernel_rfl)) rfl rfl (fun FM Z v h=>h) (gU (by omega)) hks (hes.hit m h0).1 (hes.hit m h0).2
  ·rw[if_neg (by rw[c1];decide)]
   obtain⟨t,ht⟩:∃t,s|||2^m=t:=⟨_,rfl⟩
   have ht24:t<2^24:=by rw[<-ht];exact kb hs (by omega)
   have htn:24<n+(ai t).length:=by
    have:=sA (s:=s) (a:=m) (by omega) c1
    rw[ht] at this
    omega
   obtain⟨L,hL⟩:∃L,ofH p.rules.l (m:Int)=L:=⟨_,rfl⟩
   rw[hL] at hlf hrf
   have hor:u64.wrap ((BitVec.ofInt 64 (s:Int)|||BitVec.ofInt 64 (2^m)).toNat:Int)=(t:Int):=by
    rw[<-ht]
    exact Tb.u64_or (bI hs) (bI (Nat.pow_lt_pow_right (by decide) (by omega)))
   obtain⟨F,hF⟩:∃F:Nat->Rule->Nat,F=fun (s:Nat) (r:Rule)=>r.body.l.foldl (fun (s:Nat) (l:Lit)=>hgF p n l.atom.toNat s) s:=⟨_,rfl⟩
   rw[ht,hL,hor,<-hF]
   have hup:∀r,r∈L->upS (fun s=>F s r):=fun r hm=>by
    rw[hF]
    exact gt (fun l hl=>g5 hr n l.atom.toNat (by have:=(hrf r hm).1.2 l hl;omega))
   have huT:∀i,ew t ((L.take i).foldl F t)/\(L.take i).foldl F t<2^24:=fun i=>gt (f:=F) (l:=L.take i) (fun r hm=>hup r (List.mem_of_mem_take hm)) t ht24
   refine(a9 (by kernel_rfl) (fun (i:Nat)=>⟨[(3,ref 4 0),(21,fz k 2 (L.length) fun (i:Nat)=>bG (L.getD i default)),(22,int i64 (L.length:Int)),(23,.int .i64 i)],[.cells false 27 (ae p v (.mp 1)),.map es,.cells false 1 (fun _=>.int .u64 ((L.take i).foldl F t:Nat)),.cells false 1 (fun _=>.ref 0 0),.cells false 1 (fun _=>.fn 102 0 (nth []) 3 (nth [.ref 2 0,.ref 3 0,.ref 4 0]))],g⟩) (fun (i:Nat)=>(i<=L.length)) (fun (i:Nat)=>(L.length-i)) 0 (iy ⟨Bs _,Bs _,Bs _,(Bt (by kernel_rfl)),trivial⟩ ⟨Bu,rfl,⟨rfl,Nat.le_refl _,fun j hj=>match j,hj with|0,_=>(Bt (by kernel_rfl)) ⟩,Bu,Bu,trivial⟩ rfl) ?_ (fun i hi=>?_))
   ·exact Nat.zero_le _
   ·obtain⟨hu1,hu2⟩:=huT i
    rcases Nat.lt_or_ge i L.length with hlt|hge
    ·have hq:=hrf _ (fl hlt)
     have hq1:=hq.1.1
     have hstep:=iV F t L default hlt
     obtain⟨u,hu⟩:∃u,(L.take i).foldl F t=u:=⟨_,rfl⟩
     rw[hu] at hu1 hu2 hstep ⊢
     obtain⟨B,hB⟩:∃B,(L.getD i default).body=B:=⟨_,rfl⟩
     have hFB:F u (L.getD i default)=B.l.foldl (fun (s:Nat) (l:Lit)=>hgF p n l.atom.toNat s) u:=by rw[hF,<-hB]
     have hBl:∀l,l∈B.l->0<=l.atom/\l.atom<24:=by rw[<-hB];exact hq.1.2
     have huB:∀j,ew u ((B.l.take j).foldl (fun (s:Nat) (l:Lit)=>hgF p n l.atom.toNat s) u)/\(B.l.take j).foldl (fun (s:Nat) (l:Lit)=>hgF p n l.atom.toNat s) u<2^24:=fun j=>gt (f:=fun (s:Nat) (l:Lit)=>hgF p n l.atom.toNat s) (fun l hm=>g5 hr n l.atom.toNat (by have:=hBl l (List.mem_of_mem_take hm);omega)) u hu2
     rw[hFB] at hstep
     rw[hB] at hq1
     refine vcQ [] (lkL [(3,[3,21,22,23,24]),(4,[3,6,21,22,23]),(5,[3,21,22,23,28,29,30])]) (lkL [(4,[(3,ROrc.val (Orc.obj (nth [int i64 (L.getD i default).head,am (L.getD i default).body])))])]) (fun Q=>(fun (u1:Int)=>(fun (u2:List AV)=>(fun (u3:Int)=>(fun (u4:AObj)=>(fun (u5:AV)=>(decide (u3<u1)=true->(0<=u3/\u3<u1)/\2<=2/\2<=2/\(∀(c:Nat),c<2->nth u2 c=al (nth [int i64 0,fz Fz.nil 0 0 fun _ _=>any]) 0 2 (List.brecOn (motive:=fun (x:List AV)=>Nat->AV) u2 nth._f) c)/\2<=2/\Wp Tryd.prog R 40 5 Rd.top (aw Tryd.prog 102) [1,1,1,0,0,1,1,0,0,1,1,0] (aS Tryd.prog R 40 5 Rd.top (aw Tryd.prog 102) Q [Kont.blk 2,Kont.blk 1,Kont.seq [1,1,1,0,0,1,1,1]]) (St.mk [(3,ref 4 0),(21,u5),(22,int i64 u1),(23,int i64 u3),(28,am (L.getD i default).body),(29,int i64 (↑((L.getD i default).body.l.length):Int)),(30,int i64 0)] [cells false 27 (ae p v (AV.mp 1)),AObj.map es,cells false 1 fun (x:Nat)=>int u64 (u:Int),cells false 1 fun (x:Nat)=>ref 0 0,u4,cells false 2 (nth u2)] g))/\(decide (u3<u1)=false->Q (AEx.exit 0) (St.mk [(3,ref 4 0),(21,u5),(22,int i64 u1),(23,int i64 u3),(24,AV.bool (decide (u3<u1)))] [cells false 27 (ae p v (AV.mp 1)),AObj.map es,cells false 1 fun (x:Nat)=>int u64 (u:Int),cells false 1 fun (x:Nat)=>ref 0 0,u4] g))) (fz k 2 (L.length) fun (i:Nat)=>bG (L.getD i default))) (cells false 1 fun (x:Nat)=>fn 102 0 (nth []) 3 (nth [ref 2 0,ref 3 0,ref 4 0]))) ((i:Int))) ([int i64 (L.getD i default).head,am (L.getD i default).body])) ((L.length:Int))) (fun _=>by kernel_rfl) ⟨fun c1=>have c1:(i:Int)<(L.length:Int):=(of_decide_eq_true c1);⟨by omega,by omega,by omega,(fun c hc=>match c,hc with|0,_=>(by kernel_rfl)|1,_=>(by kernel_rfl) ),by omega,?_⟩,fun c1=>have c1:¬(i:Int)<(L.length:Int):=(of_decide_eq_false c1);?_⟩
     ·rw[hB]
      refine(a9 (by kernel_rfl) (fun (j:Nat)=>⟨[(3,ref 4 0),(21,fz k 2 (L.length) fun (i:Nat)=>bG (L.getD i default)),(22,int i64 (L.length:Int)),(23,int i64 (i:Int)),(28,am B),(29,int i64 (B.l.length:Int)),(30,.int .i64 j)],[.cells false 27 (ae p v (.mp 1)),.map es,.cells false 1 (fun _=>.int .u64 ((B.l.take j).foldl (fun (s:Nat) (l:Lit)=>hgF p n l.atom.toNat s) u:Nat)),.cells false 1 (fun _=>.ref 0 0),.cells false 1 (fun _=>.fn 102 0 (nth []) 3 (nth [.ref 2 0,.ref 3 0,.ref 4 0])),.cells false 2 (nth [.int .i64 (L.getD i default).head,am B])],g⟩) (fun (j:Nat)=>(j<=B.l.length)) (fun (j:Nat)=>(B.l.length-j)) 0 (iy ⟨Bs _,Bs _,Bs _,Bs _,Bs _,Bs _,(Bt (by kernel_rfl)),trivial⟩ ⟨Bu,rfl,Bu,Bu,Bu,Bu,trivial⟩ rfl) ?_ (fun j hi=>?_))
      ·exact Nat.zero_le _
      ·obtain⟨hj1,hj2⟩:=huB j
       rcases Nat.lt_or_ge j B.l.length with hjl|hjg
       ·have hs2:=iV (fun (s:Nat) (l:Lit)=>hgF p n l.atom.toNat s) u B.l default hjl
        have hat:=hBl _ (bO B.l default hjl)
        obtain⟨z,hz⟩:∃z,(B.l.take j).foldl (fun (s:Nat) (l:Lit)=>hgF p n l.atom.toNat s) u=z:=⟨_,rfl⟩
        rw[hz] at hj1 hj2 hs2 ⊢
        have hcz:24<n+(ai z).length:=by
         have a1:=oK hj1
         have a2:=oK hu1
         omega
        refine vcQ [] (lkL [(6,[3,21,22,23,28,29,30,31]),(7,[3,8,21,22,23,28,29,30]),(8,[3,21,22,23,28,29,30]),(9,[3,21,22,23,28,29,30])]) (lkL [(7,[(3,ROrc.val (Orc.obj (nth [int i64 (B.l.getD j default).atom,AV.bool (B.l.getD j default).neg])))]),(8,[(3,ROrc.call (tup 0 (nth [])) [cells false 27 (ae p v (AV.mp 1)),AObj.map es,cells false 1 fun (j_1:Nat)=>int u64 (↑(hgF p n ((B.l.getD j default).atom.toNat) z):Int),cells false 1 fun (x:Nat)=>ref 0 0,cells false 1 fun (x:Nat)=>fn 102 0 (nth []) 3 (nth [ref 2 0,ref 3 0,ref 4 0]),cells false 2 (nth [int i64 (L.getD i default).head,am B]),cells false 2 (nth [int i64 (B.l.getD j default).atom,AV.bool (B.l.getD j default).neg])] g)])]) (fun Q=>(fun (u1:List AObj)=>(fun (u2:Int)=>(fun (u3:List AObj)=>(fun (u4:Int)=>(fun (u5:Lit)=>(fun (u6:AV)=>(decide (u4<u2)=true->(0<=u4/\u4<u2)/\2<=2/\2<=2/\(∀(c:Nat),c<2->nth [int i64 u5.atom,AV.bool u5.neg] c=al (nth [int i64 0,AV.bool false]) 0 2 (List.brecOn (motive:=fun (x:List AV)=>Nat->AV) [int i64 u5.atom,AV.bool u5.neg] nth._f) c)/\1<=1/\1<=2/\(true=true/\Does Tryd.prog R 102 [int i64 u5.atom,ref 2 0,ref 3 0,ref 4 0] (cells false 27 (ae p v (AV.mp 1))::AObj.map es::(cells false 1 fun (x:Nat)=>int u64 (z:Int))::u1) g (ret (tup 0 (nth []))) u3 g)/\(-9223372036854775808<=u4+1/\u4+1<=9223372036854775807)/\Q AEx.normal (St.mk [(3,ref 4 0),(21,u6),(22,int i64 (L.length:Int)),(23,int i64 (i:Int)),(28,am B),(29,int i64 u2),(30,int i64 (u4+1))] u3 g))/\(decide (u4<u2)=false->Q (AEx.exit 2) (St.mk [(3,ref 4 0),(21,u6),(22,int i64 (L.length:Int)),(23,int i64 (i:Int)),(28,am B),(29,int i64 u2),(30,int i64 u4),(31,AV.bool (decide (u4<u2)))] [cells false 27 (ae p v (AV.mp 1)),AObj.map es,cells false 1 fun (x:Nat)=>int u64 (z:Int),cells false 1 fun (x:Nat)=>ref 0 0,cells false 1 fun (x:Nat)=>fn 102 0 (nth []) 3 (nth [ref 2 0,ref 3 0,ref 4 0]),cells false 2 (nth [int i64 (L.getD i default).head,am B])] g))) (fz k 2 (L.length) fun (i:Nat)=>bG (L.getD i default))) (B.l.getD j default)) ((j:Int))) (cells false 27 (ae p v (AV.mp 1))::AObj.map es::(cells false 1 fun (j_1:Nat)=>int u64 (↑(hgF p n ((B.l.getD j default).atom.toNat) z):Int))::u1)) ((B.l.length:Int))) ([cells false 1 fun (x:Nat)=>ref 0 0,cells false 1 fun (x:Nat)=>fn 102 0 (nth []) 3 (nth [ref 2 0,ref 3 0,ref 4 0]),cells false 2 (nth [int i64 (L.getD i default).head,am B]),cells false 2 (nth [int i64 (B.l.getD j default).atom,AV.bool (B.l.getD j default).neg])])) (fun _=>by kernel_rfl) ⟨fun c1=>have c1:(j:Int)<(B.l.length:Int):=(of_decide_eq_true c1);⟨by omega,by omega,by omega,(fun c hc=>match c,hc with|0,_=>(by kernel_rfl)|1,_=>(by kernel_rfl) ),by omega,by omega,⟨rfl,(eI [0,1,2,3,4] 7 (fun R g=>ih R ((B.l.getD j default).atom) (z) g (by omega) (by omega) (by omega)) rfl rfl rfl (by exact⟨⟨rfl,Nat.le_refl _,fun j hj=>(by first|exact bt (by first|exact trivial|apply aW)|exact Bt (cx rfl).symm|exact Bt (cb (by rfl)).symm)⟩,rfl,⟨rfl,Nat.le_refl _,fun j hj=>match j,hj with|0,_=>(Bs _) ⟩,⟨rfl,Nat.le_refl _,fun j hj=>match j,hj with|0,_=>(Bs _) ⟩,⟨rfl,Nat.le_refl _,fun j hj=>match j,hj with|0,_=>(Le.fn (fun i hi=>absurd hi (by omega)) (fun i hi=>match i,hi with|0,_=>(Bs _)|1,_=>(Bs _)|2,_=>(Bs _) )) ⟩,trivial⟩) (by exact⟨by omega,by omega,by omega,by omega,trivial⟩) (by exact⟨bt (by exact trivial),Bs _,Bs _,Bs _,trivial⟩) (by exact bK (by exact trivial)) (by exact⟨⟨rfl,Nat.le_refl _,fun j hj=>(by first|exact bK (by first|exact trivial|apply aW)|exact Bt (cx rfl)|exact Bt (cb (by rfl)))⟩,rfl,Bu,⟨rfl,Nat.le_refl _,fun j hj=>match j,hj with|0,_=>(Bs _) ⟩,⟨rfl,Nat.le_refl _,fun j hj=>match j,hj with|0,_=>(Le.fn (fun i hi=>absurd hi (by omega)) (fun i hi=>match i,hi with|0,_=>(Bs _)|1,_=>(Bs _)|2,_=>(Bs _) )) ⟩,Bu,Bu,trivial⟩))⟩,by omega,?_⟩,fun c1=>have c1:¬(j:Int)<(B.l.length:Int):=(of_decide_eq_false c1);?_⟩
        ·refine(aO (j+1) (d5 [0,1,2,3,4,5] 7 rfl rfl rfl rfl rfl ⟨Bs _,Bs _,Bs _,Bs _,Bs _,Bs _,Bs _,trivial⟩ ⟨⟨by first|rfl|(simp;done),by first|exact Nat.le_refl _|(simp;done)|(simp;omega),fun j hj=>(by first|exact bt (by first|exact trivial|apply aW)|exact Bt (cx rfl).symm|exact Bt (cb (by rfl)).symm)⟩,rfl,⟨rfl,Nat.le_refl _,fun j hj=>match j,hj with|0,_=>(Bt ?_) ⟩,⟨rfl,Nat.le_refl _,fun j hj=>match j,hj with|0,_=>(Bs _) ⟩,⟨rfl,Nat.le_refl _,fun j hj=>match j,hj with|0,_=>(Le.fn (fun i hi=>absurd hi (by omega)) (fun i hi=>match i,hi with|0,_=>(Bs _)|1,_=>(Bs _)|2,_=>(Bs _) )) ⟩,⟨rfl,Nat.le_refl _,fun j hj=>match j,hj with|0,_=>(Bs _)|1,_=>(Bs _) ⟩,trivial⟩) ?_ ?_)
         ·show AV.int .u64 _=AV.int .u64 _
          rw[hs2]
         ·omega
         ·omega
        ·exfalso;omega
       ·have hje:j=B.l.length:=by omega
        subst hje
        rw[List.take_length,<-hstep]
        have hb:decide ((B.l.length:Int)<(B.l.length:Int))=false:=decide_eq_false (by omega)
        refine vcQ [[1,1,1,0,0,1,1,0,0,1,1,0,0,1,0,0]] (lkL [(6,[3,21,22,23,28,29,30,31])]) (fun _=>[]) (fun Q=>(fun (u1:St R.σ)=>(fun (u2:Int)=>(decide (u2<u2)=true->Wp Tryd.prog R 40 5 Rd.top (aw Tryd.prog 102) [1,1,1,0,0,1,1,0,0,1,1,0,0,1,0,0] (aS Tryd.prog R 40 5 Rd.top (aw Tryd.prog 102) Q [Kont.seq [1,1,1,0,0,1,1,0,0,1,1,0,0,1,1]]) u1)/\(decide (u2<u2)=false->Q (AEx.exit 2) u1)) ((B.l.length:Int))) (St.mk [(3,ref 4 0),(21,fz k 2 (L.length) fun (i:Nat)=>bG (L.getD i default)),(22,int i64 (L.length:Int)),(23,int i64 (i:Int)),(28,am B),(29,int i64 (B.l.length:Int)),(30,int i64 (B.l.length:Int)),(31,AV.bool (decide ((B.l.length:Int)<(B.l.length:Int))))] [cells false 27 (ae p v (AV.mp 1)),AObj.map es,cells false 1 fun (x:Nat)=>int u64 (↑(List.foldl F t (List.take (i+1) L)):Int),cells false 1 fun (x:Nat)=>ref 0 0,cells false 1 fun (x:Nat)=>fn 102 0 (nth []) 3 (nth [ref 2 0,ref 3 0,ref 4 0]),cells false 2 (nth [int i64 (L.getD i default).head,am B])] g)) (fun _=>by kernel_rfl) ⟨fun hcc=>(nomatch (hb.symm.trans hcc)),fun _=>?_⟩
        refine⟨_,BE _,vcQ [] (lkL [(10,[3,21,22,23])]) (fun _=>[]) (fun Q=>(-9223372036854775808<=(i:Int)+1/\(i:Int)+1<=9223372036854775807)/\Q AEx.normal (St.mk [(3,ref 4 0),(21,fz k 2 (L.length) fun (i:Nat)=>bG (L.getD i default)),(22,int i64 (L.length:Int)),(23,int i64 ((i:Int)+1))] [cells false 27 (ae p v (AV.mp 1)),AObj.map es,cells false 1 fun (x:Nat)=>int u64 (↑(List.foldl F t (List.take (i+1) L)):Int),cells false 1 fun (x:Nat)=>ref 0 0,cells false 1 fun (x:Nat)=>fn 102 0 (nth []) 3 (nth [ref 2 0,ref 3 0,ref 4 0]),cells false 2 (nth [int i64 (L.getD i default).head,am B])] g)) (fun _=>by kernel_rfl) ⟨by omega,?_⟩⟩
        refine(aO (i+1) (d5 [0,1,2,3,4] 6 rfl rfl rfl rfl rfl ⟨Bs _,Bs _,Bs _,Bs _,trivial⟩ ⟨⟨by first|rfl|(simp;done),by first|exact Nat.le_refl _|(simp;done)|(simp;omega),fun j hj=>(by first|exact bt (by first|exact trivial|apply aW)|exact Bt (cx rfl).symm|exact Bt (cb (by rfl)).symm)⟩,rfl,⟨rfl,Nat.le_refl _,fun j hj=>match j,hj with|0,_=>(Bs _) ⟩,⟨rfl,Nat.le_refl _,fun j hj=>match j,hj with|0,_=>(Bs _) ⟩,⟨rfl,Nat.le_refl _,fun j hj=>match j,hj with|0,_=>(Le.fn (fun i hi=>absurd hi (by omega)) (fun i hi=>match i,hi with|0,_=>(Bs _)|1,_=>(Bs _)|2,_=>(Bs _) )) ⟩,trivial⟩) ?_ ?_)
        ·omega
        ·omega
     ·exfalso;omega
    ·have hie:i=L.length:=by omega
     subst hie
     rw[List.take_length]
     have hb:decide ((L.length:Int)<(L.length:Int))=false:=decide_eq_false (by omega)
     refine vcQ [[1,1,1,0,0,1,0,0]] (lkL [(3,[3,21,22,23,24])]) (fun _=>[]) (fun Q=>(fun (u1:St R.σ)=>(fun (u2:Int)=>(decide (u2<u2)=true->Wp Tryd.prog R 40 5 Rd.top (aw Tryd.prog 102) [1,1,1,0,0,1,0,0] (aS Tryd.prog R 40 5 Rd.top (aw Tryd.prog 102) Q [Kont.seq [1,1,1,0,0,1,1]]) u1)/\(decide (u2<u2)=false->Q (AEx.exit 0) u1)) ((L.length:Int))) (St.mk [(3,ref 4 0),(21,fz k 2 (L.length) fun (i:Nat)=>bG (L.getD i default)),(22,int i64 (L.length:Int)),(23,int i64 (L.length:Int)),(24,AV.bool (decide ((L.length:Int)<(L.length:Int))))] [cells false 27 (ae p v (AV.mp 1)),AObj.map es,cells false 1 fun (x:Nat)=>int u64 (↑(List.foldl F t L):Int),cells false 1 fun (x:Nat)=>ref 0 0,cells false 1 fun (x:Nat)=>fn 102 0 (nth []) 3 (nth [ref 2 0,ref 3 0,ref 4 0])] g)) (fun _=>by kernel_rfl) ⟨fun hcc=>(nomatch (hb.symm.trans hcc)),fun _=>?_⟩
     refine⟨_,BE _,(aq (aP _ _ rfl trivial rfl rfl rfl) (Bs _))⟩
def hgP (p:Prg)(a:Nat):Nat:=hgF p 25 a 0
theorem sB (R:Res)(p:Prg)(a:Int)(hl:p.rules.l.length<1000000)(hr:∀r,r∈p.rules.l->aE r)(ha:0<=a/\a<24)(hp:List AObj)(g:R.σ):Does Tryd.prog R 70 [av p,.int .i64 a] hp g (.ret (.int .u64 (hgP p a.toNat))) hp g:=by
 refine bx (fun R g=>?_) (by exact⟨⟨⟨trivial,trivial⟩,trivial⟩,trivial,trivial⟩) R hp g
 have hes:=ol hr
 have hz:(0:Nat)<2^24:=by decide
 have hc:24<25+(ai 0).length:=by omega
 have h1:=fun R g=>zb p (fun _=>3) (esF p.rules.l) hes hl hr 25 R a 0 g ha hz hc
 refine dR (nt:=15) (rs:=[.tmp 4]) (k0:=0) (by kernel_rfl) (by kernel_rfl) (by kernel_rfl) rfl ?_
 refine vcQ [] (lkL [(0,[1,2]),(1,[1,5]),(2,[1,5,6]),(3,[1,5,6,7]),(4,[1,6,7]),(5,[6]),(6,[4])]) (lkL [(1,[(1,ROrc.call (ref 1 0) [cells false 2 (nth [int i64 p.atoms,ad p.rules]),cells false 27 (ae p (fun (x:Nat)=>3) (AV.mp 2)),AObj.map (esF p.rules.l)] g),(3,ROrc.val (Orc.obj (nth [ref 1 0])))]),(4,[(1,ROrc.val (Orc.obj (nth [fn 102 0 (nth []) 3 (nth [ref 4 0,ref 3 0,ref 5 0])])))]),(5,[(2,ROrc.call (tup 0 (nth [])) [cells false 2 (nth [int i64 p.atoms,ad p.rules]),cells false 27 (ae p (fun (x:Nat)=>3) (AV.mp 2)),AObj.map (esF p.rules.l),cells false 1 (nth [ref 1 0]),cells false 1 fun (j:Nat)=>int u64 (↑(hgF p 25 (a.toNat) 0):Int),cells false 1 (nth [fn 102 0 (nth []) 3 (nth [ref 4 0,ref 3 0,ref 5 0])])] g)])]) (fun Q=>(fun (u1:List AObj)=>(fun (u2:AObj)=>(fun (u3:AV)=>(fun (u4:AObj)=>2<=2/\(true=true/\Does Tryd.prog R 66 [av p] [u2] g (ret (ref 1 0)) [u2,u4,AObj.map (esF p.rules.l)] g)/\1<=1/\(∀(c:Nat),c<1->nth [ref 1 0] c=al (fun (a:Nat)=>AV.nilp) 0 1 (fun (x:Nat)=>ref 1 0) c)/\1<=1/\(∀(c:Nat),c<1->nth [u3] c=al (fun (a:Nat)=>AV.nilf) 0 1 (fun (x:Nat)=>u3) c)/\1<=1/\(true=true/\Does Tryd.prog R 102 [int i64 a,ref 4 0,ref 3 0,ref 5 0] [u2,u4,AObj.map (esF p.rules.l),cells false 1 (nth [ref 1 0]),cells false 1 fun (a:Nat)=>int u64 0,cells false 1 (nth [u3])] g (ret (tup 0 (nth []))) u1 g)/\1<=1/\Q AEx.ret (St.mk [(4,int u64 (↑(hgF p 25 (a.toNat) 0):Int))] u1 g)) (cells false 27 (ae p (fun (x:Nat)=>3) (AV.mp 2)))) (fn 102 0 (nth []) 3 (nth [ref 4 0,ref 3 0,ref 5 0]))) (cells false 2 (nth [int i64 p.atoms,ad p.rules]))) ([cells false 2 (nth [int i64 p.atoms,ad p.rules]),cells false 27 (ae p (fun (x:Nat)=>3) (AV.mp 2)),AObj.map (esF p.rules.l),cells false 1 (nth [ref 1 0]),cells false 1 fun (j:Nat)=>int u64 (↑(hgF p 25 (a.toNat) 0):Int),cells false 1 (nth [fn 102 0 (nth []) 3 (nth [ref 4 0,ref 3 0,ref 5 0])])])) (fun _=>by kernel_rfl) ⟨by omega,⟨rfl,(lX _ _ _ (by omega) (by omega) _)⟩,by omega,(fun c hc=>match c,hc with|0,_=>(by kernel_rfl) ),by omega,(fun c hc=>match c,hc with|0,_=>(by kernel_rfl) ),by omega,⟨rfl,(eI [1,2,4,3,5] 6 (fun R g=>h1 R g) rfl rfl rfl (by exact⟨⟨rfl,Nat.le_refl _,fun j hj=>(by first|exact bt (by first|exact trivial|apply aW)|exact Bt (cx rfl).symm|exact Bt (cb (by rfl)).symm)⟩,rfl,⟨rfl,Nat.le_refl _,fun j hj=>match j,hj with|0,_=>(Bs _) ⟩,⟨rfl,Nat.le_refl _,fun j hj=>match j,hj with|0,_=>(Bs _) ⟩,⟨rfl,Nat.le_refl _,fun j hj=>match j,hj with|0,_=>(Le.fn (fun i hi=>absurd hi (by omega)) (fun i hi=>match i,hi with|0,_=>(Bs _)|1,_=>(Bs _)|2,_=>(Bs _) )) ⟩,trivial⟩) (by exact⟨by omega,by omega,by omega,by omega,trivial⟩) (by exact⟨bt (by exact trivial),Bs _,Bs _,Bs _,trivial⟩) (by exact bK (by exact trivial)) (by exact⟨Bu,⟨rfl,Nat.le_refl _,fun j hj=>(by first|exact bK (by first|exact trivial|apply aW)|exact Bt (cx rfl)|exact Bt (cb (by rfl)))⟩,rfl,⟨rfl,Nat.le_refl _,fun j hj=>match j,hj with|0,_=>(Bs _) ⟩,Bu,⟨rfl,Nat.le_refl _,fun j hj=>match j,hj with|0,_=>(Le.fn (fun i hi=>absurd hi (by omega)) (fun i hi=>match i,hi with|0,_=>(Bs _)|1,_=>(Bs _)|2,_=>(Bs _) )) ⟩,trivial⟩))⟩,by omega,?_⟩
 refine(aq (bw _ _ rfl trivial trivial rfl) (Bt (by kernel_rfl)))
def ao (s:Nat):KL Int:=⟨bv s,.auto⟩
theorem kc (R:Res)[Tab LT R](s:Nat)(hs:s<2^24)(g:R.σ):Does Tryd.prog R 75 [.fn 105 0 (nth []) 1 (nth [.ref 0 0])] [cO 1 (fun _=>.int .u64 s)] g (.ret (ah (ao s))) [cO 1 (fun _=>.any)] g:=
 iH (yJ R s hs g) (toL (h1:=⟨By (gr s).symm (fun i j hi hj=>by
  show AV.int .i64 _=AV.int .i64 ((bv s).getD i 0)
  rw[gW]),trivial⟩) (h2:=⟨Bv _,trivial⟩))
theorem g6 {p:Prg}(hr:∀r,r∈p.rules.l->aE r){a:Nat}(ha:a<24):hgP p a<2^24:=(g5 hr 25 a ha 0 dcd).2
def au (p:Prg)(a:Nat):Nat:=(ai (hgP p a)).foldl (fun (s:Nat) (b:Nat)=>if (hgP p b).testBit a then s|||2^b else s) 0
def onC (p:Prg):Nat->AV:=fun k=>.int .u64 (hgP p k)
theorem rp {k:Nat}(p:Prg)(j:Nat):Below k (onC p j):=trivial
theorem rB {f:Nat->Nat}(h:True){p:Prg}{j:Nat}:aK f (onC p j)=onC p j:=rfl
theorem oL {p:Prg}{a:Nat}:∀{l:List Nat} {s:Nat},(∀b,b∈l->b<24)->s<2^24->l.foldl (fun (s:Nat) (b:Nat)=>if (hgP p b).testBit a then s|||2^b else s) s<2^24
 |[],_,_,hs=>hs
 |b::l,s,hl,hs=>by
  rw[List.foldl_cons]
  refine oL (fun c hc=>hl c (List.mem_cons_of_mem _ hc)) ?_
  split
  ·exact kb hs (hl b List.mem_cons_self)
  ·exact hs
theorem sC (p:Prg)(a:Nat):au p a<2^24:=oL (fun b hb=>iS hb) dcd
theorem lY (R:Res)[Tab LT R](p:Prg)(n:Nat)(a:Int)(hr:∀r,r∈p.rules.l->aE r)(hn:n<=24)(ha:0<=a/\a<n)(hin:∀b,b∈ai (hgP p a.toNat)->b<n)(g:R.σ):Does Tryd.prog R 82 [.int .i64 a,.ref 0 0] [cO 1 (fun _=>.ow true 1 n 1),cO (n*1) (onC p)] g (.ret (.int .u64 (au p a.toNat))) [cO 1 (fun _=>.ow true 1 n 1),cO (n*1) (onC p)] g:=by
 obtain⟨m,rfl⟩:∃m:Nat,a=m:=⟨a.toNat,omg⟩
 rw[Int.toNat_natCast] at hin ⊢
 have hlt:hgP p m<2^24:=g6 hr omg
 refine spW (nt:=23) (rs:=[.tmp 3]) (k0:=2) ?_
 refine vcR [] (lkL [(0,[1,2]),(1,[1,2,4]),(2,[1,2,4,10])]) (lkL [(2,[(4,ROrc.call (fn 105 0 (nth []) 1 (nth [ref (List.length [cO 1 fun (x:Nat)=>ow true 1 n 1,cO (n*1) fun (a:Nat)=>onC p a,cO 1 fun (a:Nat)=>i6 (↑m:Int),cO 1 fun (a:Nat)=>int u64 0]) 0])) ([cO 1 fun (x:Nat)=>ow true 1 n 1,cO (n*1) fun (a:Nat)=>onC p a,cO 1 fun (a:Nat)=>i6 (↑m:Int),cO 1 fun (a:Nat)=>int u64 0]++[cO 1 fun (x:Nat)=>int u64 (↑(hgP p m):Int)]) g)])]) (fun Q=>(fun (u1:List AObj)=>1<=1/\1<=1/\(0<=(↑m:Int)/\(↑m:Int)<(↑n:Int))/\m+1<=n*1/\(true=true/\Does Tryd.prog R 77 [onC p m] [cO 1 fun x=>ow true 1 n 1,cO (n*1) fun a=>onC p a,cO 1 fun a=>i6 (↑m:Int),cO 1 fun a=>int u64 0] g (ret (fn 105 0 (nth []) 1 (nth [ref 4 0]))) u1 g)/\WpC Tryd.prog R 23 2 82 [1,1,0,1,0] Q [Kont.blk 0,Kont.seq [1,1,1]] (St.mk [(1,ref 0 0),(2,ref 2 0),(4,ref 3 0),(10,fn 105 0 (nth []) 1 (nth [ref 4 0]))] u1 g)) ([cO 1 fun x=>ow true 1 n 1,cO (n*1) fun a=>onC p a,cO 1 fun a=>i6 (↑m:Int),cO 1 fun a=>int u64 0,cO 1 fun x=>onC p m])) ⟨omg,omg,omg,omg,⟨rfl,(cT _ _ _ _)⟩,?_⟩
 have hseq:=lB (hgP p m) hlt
 obtain⟨l,hle⟩:∃l,ai (hgP p m)=l:=⟨_,rfl⟩
 have hw:au p m=l.foldl (fun (s:Nat) (b:Nat)=>if (hgP p b).testBit m then s|||2^b else s) 0:=by unfold au;rw[hle]
 rw[hle] at hseq hin
 have hin2:∀k,k<l.length->l.getD k 0<n:=fun k hk=>hin _ (bO l 0 hk)
 refine iJ 10 [11] 4 krf rfl rfl rfl hseq (fun _=>rfl) krf (fun _=>⟨trivial,trivial⟩)
  (fun _=>none) (fun _=>rfl)
  (fun k=>[cO 1 (fun _=>.ow true 1 n 1),cO (n*1) (onC p),cO 1 (fun _=>.int .i64 m),cO 1 (fun _=>.int .u64 ((l.take k).foldl (fun (s:Nat) (b:Nat)=>if (hgP p b).testBit m then s|||2^b else s) 0:Nat))])
  (fun _=>g) (fJ rfl rfl) (fun _=>rfl) (by exact⟨omg,omg,omg,omg,omg,trivial⟩) (by exact⟨fun _ _=>show 1<4 by omega,fun _ _=>trivial,fun _ _=>trivial,fun _ _=>trivial,trivial⟩) (by exact⟨fun _ _=>trivial,trivial⟩) [1,2,4] (by exact⟨show 0<4 by omega,show 2<4 by omega,show 3<4 by omega,trivial⟩) (fun k l' hk hjk=>?_) (fun _=>?_) (fun k hk hj hr=>by cases hr) (fun k id hk hj hr=>by cases hr)
 ·obtain⟨b,hb⟩:∃b,l.getD k 0=b:=⟨_,rfl⟩
  have hbn:b<n:=by rw[<-hb];exact hin2 k hk
  have hb24:hgP p b<2^24:=g6 hr omg
  have hst:=iV (fun (s:Nat) (b:Nat)=>if (hgP p b).testBit m then s|||2^b else s) 0 l 0 hk
  obtain⟨t,ht⟩:∃t,(l.take k).foldl (fun (s:Nat) (b:Nat)=>if (hgP p b).testBit m then s|||2^b else s) 0=t:=⟨_,rfl⟩
  have ht24:t<2^24:=by
   rw[<-ht]
   exact oL (fun c hc=>by
    have h1:=List.mem_of_mem_take hc
    rw[<-hle] at h1
    exact iS h1) dcd
  rw[hb,ht] at hst
  rw[hb,ht,hst]
  refine vcR [] (lkL [(3,[1,2,4,5])]) (fun _=>[]) (fun (Q:AEx->St R.σ->Prop)=>Q AEx.normal (St.mk [(1,ref 0 0),(2,ref 2 0),(4,ref 3 0),(5,i6 (↑b:Int))] [cO 1 fun (x:Nat)=>ow true 1 n 1,cO (n*1) fun (a:Nat)=>onC p a,cO 1 fun (x:Nat)=>i6 (↑m:Int),cO 1 fun (x:Nat)=>int u64 (↑t:Int)] g)) (?_)
  show Wp _ _ _ 4 _ _ _ _ _
  refine vcR [] (lkL [(4,[4,5,17]),(5,[4])]) (lkL [(4,[(5,ROrc.pcall (AV.bool (Nat.testBit (hgP p b) m)))]),(5,[(2,ROrc.pcall (int u64 (↑(2^b):Int))),(4,ROrc.val (Orc.obj (nth [int u64 (IntKind.wrap u64 (↑(BitVec.toNat (BitVec.ofInt 64 (↑t:Int)|||BitVec.ofInt 64 (↑(2^b):Int))):Int))])))])]) (fun Q=>(fun (u1:AV)=>(fun (u2:Bool)=>(fun (u3:Bool)=>u3=true/\1<=1/\(0<=(↑b:Int)/\(↑b:Int)<(↑n:Int))/\b+1<=n*1/\1<=1/\(∀(hp:List AObj) (g:R.σ),true=true/\Does Tryd.prog R 71 [onC p b,i6 (↑m:Int)] hp g (ret (AV.bool u2)) hp g)/\(u2=true->u3=true/\1<=1/\(∀(hp:List AObj) (g:R.σ),true=true/\Does Tryd.prog R 79 [i6 (↑b:Int)] hp g (ret (int u64 (↑(2^b):Int))) hp g)/\1<=1/\(∀(c:Nat),c<1->nth [u1] c=al (fun (x:Nat)=>int u64 (↑t:Int)) 0 1 (fun (x:Nat)=>u1) c)/\Q AEx.normal (St.mk [(4,ref 3 0)] [cO 1 fun x=>ow true 1 n 1,cO (n*1) fun a=>onC p a,cO 1 fun x=>i6 (↑m:Int),cO 1 (nth [u1])] g))/\(u2=false->Q AEx.normal (St.mk [(4,ref 3 0),(5,i6 (↑b:Int)),(17,AV.bool u2)] [cO 1 fun x=>ow true 1 n 1,cO (n*1) fun a=>onC p a,cO 1 fun x=>i6 (↑m:Int),cO 1 fun x=>int u64 (↑t:Int)] g))) (Tables.follows Tryd.prog.toTables Departure.mixedOrders)) (Nat.testBit (hgP p b) m)) (int u64 (IntKind.wrap u64 (↑(BitVec.toNat (BitVec.ofInt 64 (↑t:Int)|||BitVec.ofInt 64 (↑(2^b):Int))):Int)))) ⟨krf,omg,omg,omg,omg,(fun _ _=>⟨rfl,(jW _ _ _ omg omg _ _)⟩),fun c1=>⟨krf,omg,(fun _ _=>⟨rfl,(gS _ _ omg _ _)⟩),omg,(fun c hc=>match c,hc with|0,_=>krf ),?_⟩,fun c1=>?_⟩
  ·refine(eJ rfl (toL (h2:=⟨Bu,Bu,Bu,⟨rfl,Nat.le_refl _,fun j hj=>match j,hj with|0,_=>(Bt ?_) ⟩,trivial⟩)))
   show AV.int .u64 _=AV.int .u64 _
   rw[if_pos c1]
   congr 1
   exact Tb.u64_or (bI ht24) (bI (Nat.pow_lt_pow_right dcd omg))
  ·refine(eJ rfl (toL (h2:=⟨Bu,Bu,Bu,⟨rfl,Nat.le_refl _,fun j hj=>match j,hj with|0,_=>(Bt ?_) ⟩,trivial⟩)))
   show AV.int .u64 _=AV.int .u64 _
   rw[if_neg (by rw[c1];decide)]
 ·rw[List.take_length,<-hw]
  refine vcR [] (lkL [(6,[3])]) (fun _=>[]) (fun Q=>1<=1/\Q AEx.ret (St.mk [(3,int u64 (↑(au p m):Int))] [cO 1 fun x=>ow true 1 n 1,cO (n*1) fun a=>onC p a,cO 1 fun x=>i6 (↑m:Int),cO 1 fun x=>int u64 (↑(au p m):Int),dead] g)) ⟨omg,?_⟩
  show bC Tryd.prog R 2 _ _ _ _ .ret _
  refine(aq (bS 2 _ _ rfl trivial omg trivial ⟨(fun j hj=>match j,hj with|0,_=>(show 2<=2 by omega) ),(fun _ _=>trivial),trivial⟩ krf rfl rfl) (Bs _))
def kd (p:Prg)(a b:Nat):Prop:=∃r,r∈p.rules.l/\r.head=(a:Int)/\∃l,l∈r.body.l/\l.atom.toNat=b
inductive Reach (p:Prg):Nat->Nat->Prop
 |refl (a:Nat):Reach p a a
 |step {a b c:Nat} (h:kd p a b) (k:Reach p b c):Reach p a c
theorem Reach.trans {p:Prg}{a b c:Nat}(h:Reach p a b)(k:Reach p b c):Reach p a c:=by
 induction h with
 |refl a=>exact k
 |step h _ ih=>exact .step h (ih k)
def g7 (p:Prg)(a:Nat):List Nat:=(ofH p.rules.l (a:Int)).flatMap (fun r=>r.body.l.map (fun l=>l.atom.toNat))
theorem oM {p:Prg}{a b:Nat}:b∈g7 p a↔kd p a b:=by
 unfold g7 kd ofH
 simp only[List.mem_flatMap,List.mem_map,List.mem_filter,beq_iff_eq]
 constructor
 ·rintro ⟨r,⟨h1,h2⟩,l,h3,h4⟩
  exact⟨r,h1,h2,l,h3,h4⟩
 ·rintro ⟨r,h1,h2,l,h3,h4⟩
  exact⟨r,⟨h1,h2⟩,l,h3,h4⟩
theorem sD (p:Prg)(n a s:Nat):hgF p (n+1) a s=if s.testBit a then s else(g7 p a).foldl (fun (s:Nat) (b:Nat)=>hgF p n b s) (s|||2^a):=by
 show(if s.testBit a then s else _)=_
 congr 1
 unfold g7
 rw[List.foldl_flatMap]
 congr 1
 funext s r
 rw[List.foldl_map]
def oN (p:Prg)(s t:Nat):Prop:=∀x,t.testBit x=true->s.testBit x=false->∀y,kd p x y->t.testBit y=true
theorem sE {p:Prg}(hr:∀r,r∈p.rules.l->aE r){a b:Nat}(h:b∈g7 p a):b<24:=by
 obtain⟨r,h1,_,l,h3,rfl⟩:=oM.1 h
 have:=(hr r h1).1.2 l h3
 omega
theorem sF {p:Prg}(hr:∀r,r∈p.rules.l->aE r){n:Nat}(ih:∀a s,a<24->s<2^24->24<n+(ai s).length->(hgF p n a s).testBit a=true/\oN p s (hgF p n a s)):∀(L:List Nat) (s:Nat),(∀b,b∈L->b<24)->s<2^24->24<n+(ai s).length ->
  (∀b,b∈L->(L.foldl (fun (s:Nat) (b:Nat)=>hgF p n b s) s).testBit b=true)/\oN p s (L.foldl (fun (s:Nat) (b:Nat)=>hgF p n b s) s)
 |[],s,_,_,_=>⟨fun b hb=>(by cases hb),fun x h1 h2=>by rw[List.foldl_nil] at h1;rw[h1] at h2;cases h2⟩
 |b::L,s,hL,hs,hn=>by
  have hb:=hL b List.mem_cons_self
  obtain⟨u1,u2⟩:=g5 hr n b hb s hs
  obtain⟨a1,a2⟩:=ih b s hb hs hn
  have hn':24<n+(ai (hgF p n b s)).length:=by have:=oK u1;omega
  obtain⟨c1,c2⟩:=sF hr ih L (hgF p n b s) (fun c hc=>hL c (List.mem_cons_of_mem _ hc)) u2 hn'
  have up:=(gt (l:=L) (f:=fun (s:Nat) (b:Nat)=>hgF p n b s) (fun c hc=>g5 hr n c (hL c (List.mem_cons_of_mem _ hc))) _ u2).1
  rw[List.foldl_cons]
  refine⟨fun c hc=>?_,fun x h1 h2 y hy=>?_⟩
  ·rcases List.mem_cons.1 hc with rfl|hc
   ·exact up _ a1
   ·exact c1 c hc
  ·by_cases hx:(hgF p n b s).testBit x=true
   ·exact up _ (a2 x hx h2 y hy)
   ·exact c2 x h1 (by simpa using hx) y hy
theorem sG {p:Prg}(hr:∀r,r∈p.rules.l->aE r):∀(n a s:Nat),a<24->s<2^24->24<n+(ai s).length->(hgF p n a s).testBit a=true/\oN p s (hgF p n a s)
 |0,a,s,_,_,h=>by have:=gV s;omega
 |n+1,a,s,ha,hs,h=>by
  rw[sD]
  by_cases hb:s.testBit a=true
  ·rw[if_pos hb]
   exact⟨hb,fun x h1 h2=>by rw[h1] at h2;cases h2⟩
  ·rw[if_neg hb]
   have hb:s.testBit a=false:=by simpa using hb
   have hs1:=kb hs ha
   have hn1:24<n+(ai (s|||2^a)).length:=by have:=sA ha hb;omega
   obtain⟨c1,c2⟩:=sF hr (sG hr n) (g7 p a) _ (fun b hb=>sE hr hb) hs1 hn1
   have up:=(gt (l:=g7 p a) (f:=fun (s:Nat) (b:Nat)=>hgF p n b s) (fun c hc=>g5 hr n c (sE hr hc)) _ hs1).1
   have haT:=up a (by rw[g4];simp)
   refine⟨haT,fun x h1 h2 y hy=>?_⟩
   by_cases hxa:x=a
   ·subst hxa
    exact c1 y (oM.2 hy)
   ·exact c2 x h1 (by rw[g4,h2];simp;exact fun e=>hxa e.symm) y hy
theorem sH {p:Prg}:∀(n a s b:Nat),(hgF p n a s).testBit b=true->s.testBit b=true∨Reach p a b
 |0,_,_,_,h=>.inl h
 |n+1,a,s,b,h=>by
  rw[sD] at h
  by_cases hb:s.testBit a=true
  ·rw[if_pos hb] at h;exact .inl h
  ·rw[if_neg hb] at h
   have key:∀(L:List Nat) (s:Nat),(∀c,c∈L->kd p a c)->(L.foldl (fun (s:Nat) (b:Nat)=>hgF p n b s) s).testBit b=true->s.testBit b=true∨Reach p a b:=by
    intro L
    induction L with
    |nil=>intro s _ h;exact .inl h
    |cons c L ih=>
     intro s hL h
     rw[List.foldl_cons] at h
     rcases ih _ (fun d hd=>hL d (List.mem_cons_of_mem _ hd)) h with h|h
     ·rcases sH n c s b h with h|h
      ·exact .inl h
      ·exact .inr (.step (hL c List.mem_cons_self) h)
     ·exact .inr h
   rcases key _ _ (fun c hc=>oM.1 hc) h with h|h
   ·rw[g4,Bool.or_eq_true,decide_eq_true_eq] at h
    rcases h with h|h
    ·exact .inl h
    ·subst h;exact .inr (.refl _)
   ·exact .inr h
theorem eA {p:Prg}(hr:∀r,r∈p.rules.l->aE r){a b:Nat}(ha:a<24):(hgP p a).testBit b=true↔Reach p a b:=by
 have hc:=sG hr 25 a 0 ha dcd omg
 constructor
 ·intro h
  rcases sH 25 a 0 b h with h|h
  ·simp at h
  ·exact h
 ·have key:∀x y,Reach p x y->(hgP p a).testBit x=true->(hgP p a).testBit y=true:=by
   intro x y h
   induction h with
   |refl=>exact fun h=>h
   |step h _ ih=>exact fun hx=>ih (hc.2 _ hx (by simp) _ h)
  exact fun h=>key a b h hc.1
theorem zc {p:Prg}(hl:∀r,r∈p.rules.l->∀l,l∈r.body.l->0<=l.atom/\l.atom<p.atoms){a b:Nat}(h:Reach p a b):a=b∨(b:Int)<p.atoms:=by
 induction h with
 |refl=>exact .inl rfl
 |step h k ih=>
  obtain⟨r,h1,_,l,h3,rfl⟩:=h
  have:=hl r h1 l h3
  rcases ih with rfl|h
  ·exact .inr omg
  ·exact .inr h
def dK (s t:Nat):Nat:=(BitVec.ofNat 64 s &&& ~~~ BitVec.ofNat 64 t).toNat
theorem ke {s t:Nat}(hs:s<2^24)(j:Nat):(dK s t).testBit j=(s.testBit j && !t.testBit j):=by
 unfold dK
 rw[BitVec.testBit_toNat,BitVec.getLsbD_and,BitVec.getLsbD_not,BitVec.getLsbD_ofNat,BitVec.getLsbD_ofNat]
 by_cases hj:j<64
 ·simp only[hj,decide_true,Bool.true_and]
 ·rw[Nat.testBit_lt_two_pow (x:=s) (Nat.lt_of_lt_of_le (bI hs) (Nat.pow_le_pow_right dcd omg))]
  simp[hj]
theorem sI {s t:Nat}:dK s t<=s:=by
 unfold dK
 rw[BitVec.toNat_and]
 refine Nat.le_trans Nat.and_le_left ?_
 rw[BitVec.toNat_ofNat]
 exact Nat.mod_le _ _
theorem oO {s t:Nat}(hs:s<2^24):IntKind.u64.wrap ((BitVec.ofInt 64 (s:Int) &&& ~~~ BitVec.ofInt 64 (t:Int)).toNat:Int)=((dK s t:Nat):Int):=by
 rw[BitVec.ofInt_natCast,BitVec.ofInt_natCast]
 exact Tb.wrapU (bI (Nat.lt_of_le_of_lt (sI (t:=t)) hs))
theorem zd {s:Nat}:s=0↔∀j,s.testBit j=false:=by
 constructor
 ·rintro rfl j;simp
 ·intro h
  exact Nat.eq_of_testBit_eq (fun j=>by rw[h j];simp)
theorem sJ {p:Prg}{a j:Nat}:∀{l:List Nat} {s:Nat},(l.foldl (fun (s:Nat) (b:Nat)=>if (hgP p b).testBit a then s|||2^b else s) s).testBit j=(s.testBit j||l.any (fun b=>b==j&&(hgP p b).testBit a))
 |[],s=>by simp
 |b::l,s=>by
  rw[List.foldl_cons,sJ,List.any_cons]
  cases hb:(hgP p b).testBit a with
  |true=>
   rw[if_pos rfl,g4,Bool.and_true,Bool.or_assoc]
   congr 2
  |false=>
   rw[if_neg dcd,Bool.and_false,Bool.false_or]
theorem oP {p:Prg}(hr:∀r,r∈p.rules.l->aE r){a j:Nat}(ha:a<24):(au p a).testBit j=true↔Reach p a j/\Reach p j a/\j<24:=by
 unfold au
 rw[sJ]
 simp only[Nat.zero_testBit,Bool.false_or,List.any_eq_true,Bool.and_eq_true,beq_iff_eq]
 constructor
 ·rintro ⟨b,h1,rfl,h2⟩
  obtain⟨m1,m2⟩:=Tb.mem_memN.1 h1
  exact⟨(eA hr ha).1 m2,(eA hr m1).1 h2,m1⟩
 ·rintro ⟨h1,h2,h3⟩
  exact⟨j,Tb.mem_memN.2 ⟨h3,(eA hr ha).2 h1⟩,rfl,(eA hr h3).2 h2⟩
def eP (p:Prg)(left a:Nat):Bool:=dK (hgP p a&&&left) (au p a)==0
theorem ze {p:Prg}(hr:∀r,r∈p.rules.l->aE r){left a:Nat}(hl:left<2^24)(ha:a<24):eP p left a=true↔∀b,Reach p a b->left.testBit b=true->Reach p b a:=by
 unfold eP
 have hlt:hgP p a&&&left<2^24:=Nat.lt_of_le_of_lt Nat.and_le_right hl
 rw[beq_iff_eq,zd]
 constructor
 ·intro h b hb hbl
  have hb24:=gp hl hbl
  have:=h b
  rw[ke hlt,Nat.testBit_and,(eA hr ha).2 hb,hbl] at this
  have h2:(au p a).testBit b=true:=by simpa using this
  exact((oP hr ha).1 h2).2.1
 ·intro h j
  rw[ke hlt,Nat.testBit_and]
  cases h1:(hgP p a).testBit j with
  |false=>rfl
  |true=>
   cases h2:left.testBit j with
   |false=>rfl
   |true=>
    have h3:=(eA hr ha).1 h1
    rw[(oP hr ha).2 ⟨h3,h j h3 h2,gp hl h2⟩]
    rfl
theorem zf {p:Prg}(hr:∀r,r∈p.rules.l->aE r){left:Nat}(hl:left<2^24)(h0:left≠0):∃a,a∈ai left/\eP p left a=true:=by
 have key:∀(n a:Nat),a∈ai left->(ai (hgP p a&&&left)).length<=n->∃a,a∈ai left/\eP p left a=true:=by
  intro n
  induction n with
  |zero=>
   intro a ha h
   obtain⟨m1,m2⟩:=Tb.mem_memN.1 ha
   have:a∈ai (hgP p a&&&left):=Tb.mem_memN.2 ⟨m1,by rw[Nat.testBit_and,(eA hr m1).2 (.refl a),m2];rfl⟩
   rw[List.length_eq_zero_iff.1 (Nat.le_zero.1 h)] at this
   cases this
  |succ n ih=>
   intro a ha h
   obtain⟨m1,m2⟩:=Tb.mem_memN.1 ha
   by_cases hok:eP p left a=true
   ·exact⟨a,ha,hok⟩
   ·have hne:¬∀b,Reach p a b->left.testBit b=true->Reach p b a:=fun h=>hok ((ze hr hl m1).2 h)
    obtain⟨b,hb⟩:=Classical.not_forall.1 hne
    obtain⟨hb1,hb2⟩:=Classical.not_imp.1 hb
    obtain⟨hb2,hb3⟩:=Classical.not_imp.1 hb2
    have hb24:=gp hl hb2
    refine ih b (Tb.mem_memN.2 ⟨hb24,hb2⟩) ?_
    have:(ai (hgP p b&&&left)).length<(ai (hgP p a&&&left)).length:=by
     refine j6 (fun j _ hj=>?_) ⟨a,List.mem_range.2 m1,?_,?_⟩
     ·rw[Nat.testBit_and,Bool.and_eq_true] at hj ⊢
      exact⟨(eA hr m1).2 (hb1.trans ((eA hr hb24).1 hj.1)),hj.2⟩
     ·rw[Nat.testBit_and,(eA hr m1).2 (.refl a),m2];rfl
     ·rw[Nat.testBit_and]
      cases hx:(hgP p b).testBit a with
      |false=>rfl
      |true=>exact absurd ((eA hr hb24).1 hx) hb3
    omega
 obtain⟨k,m,h⟩:=Tb.low_of (show 0<left by omega)
 have hk:left.testBit k=true:=by rw[Tb.low_bit h];simp
 exact key _ k (Tb.mem_memN.2 ⟨gp hl hk,hk⟩) (Nat.le_refl _)
def iW (p:Prg)(left:Nat):Nat:=(ai left).findIdx (eP p left)
def dU (p:Prg)(left:Nat):Nat:=(ai left).getD (iW p left) 0
def kf (p:Prg):Nat->Nat->List Nat
 |0,_=>[]
 |n+1,left=>if left=0 then[] else au p (dU p left)::kf p n (dK left (au p (dU p left)))
def cy (p:Prg):List Nat:=kf p 25 (2^p.atoms.toNat-1)
theorem sK {p:Prg}(hr:∀r,r∈p.rules.l->aE r){left:Nat}(hl:left<2^24)(h0:left≠0):iW p left<(ai left).length/\eP p left (dU p left)=true/\(∀j,j<iW p left->eP p left ((ai left).getD j 0)=false)/\dU p left∈ai left:=by
 obtain⟨a,h1,h2⟩:=zf hr hl h0
 have hk:iW p left<(ai left).length:=List.findIdx_lt_length_of_exists ⟨a,h1,h2⟩
 have e:dU p left=(ai left)[iW p left]:=by
  unfold dU
  rw[List.getD_eq_getElem?_getD,List.getElem?_eq_getElem hk]
  rfl
 refine⟨hk,by rw[e];exact List.findIdx_getElem (w:=hk),fun j hj=>?_,by rw[e];exact List.getElem_mem hk⟩
 have:=List.not_of_lt_findIdx (p:=eP p left) (xs:=ai left) hj
 rw[List.getD_eq_getElem?_getD,List.getElem?_eq_getElem omg]
 simpa using this
theorem zg {p:Prg}(hr:∀r,r∈p.rules.l->aE r){left:Nat}(hl:left<2^24)(h0:left≠0):(ai (dK left (au p (dU p left)))).length<(ai left).length:=by
 obtain⟨_,h2,_,h4⟩:=sK hr hl h0
 obtain⟨m1,m2⟩:=Tb.mem_memN.1 h4
 refine j6 (fun j _ hj=>?_) ⟨dU p left,List.mem_range.2 m1,m2,?_⟩
 ·rw[ke hl,Bool.and_eq_true] at hj
  exact hj.1
 ·rw[ke hl,(oP hr m1).2 ⟨.refl _,.refl _,m1⟩]
  simp
theorem sL (R:Res)(on:Nat)(a:Int)(hon:on<2^24)(ha:0<=a/\a<24)(g:R.σ):Does Tryd.prog R 73 [.int .i64 a,.ref 0 0] [cO 1 (fun _=>.int .u64 on)] g (.ret (.bool (!on.testBit a.toNat))) [cO 1 (fun _=>.int .u64 on)] g:=by
 refine spW (nt:=8) (rs:=[.tmp 3]) (k0:=1) ?_
 refine vcR [] (lkL [(0,[0,1]),(1,[3])]) (lkL [(1,[(2,ROrc.pcall (AV.bool (Nat.testBit on (Int.toNat a))))])]) (fun Q=>1<=1/\(∀(hp:List AObj) (g:R.σ),true=true/\Does Tryd.prog R 71 [int u64 (↑on:Int),i6 a] hp g (ret (AV.bool (Nat.testBit on (Int.toNat a)))) hp g)/\Q AEx.ret (St.mk [(3,AV.bool !Nat.testBit on (Int.toNat a))] [cO 1 fun x=>int u64 (↑on:Int)] g)) ⟨omg,(fun _ _=>⟨rfl,(od _ _ _ omg omg _ _)⟩),?_⟩
 refine(aq (aP _ _ rfl trivial rfl rfl rfl) (Bs _))
def cq (on:Nat)(a:Int):Bool:= !on.testBit a.toNat
theorem zh {U:Type}(q:U->Bool)(x:U)(r:List U)(i:Nat):aF q (x::r) i=if q x then(i:Int) else aF q r (i+1):=rfl
theorem sM (R:Res)(l:List Int)(on:Nat)(hon:on<2^24)(hl:l.length<1000000)(ha:∀a,a∈l->0<=a/\a<24)(g:R.σ):Does Tryd.prog R 103 [.ow true 0 l.length 1,.fn 73 0 (nth []) 1 (nth [.ref 1 0])] [cO (l.length*1) (af l),cO 1 (fun _=>.int .u64 on)] g (.ret (.int .i64 (aF (cq on) l 0))) [cO (l.length*1) (af l),cO 1 (fun _=>.int .u64 on)] g:=by
 refine spW (nt:=19) (rs:=[.tmp 4]) (k0:=2) ?_
 refine vcR [] (lkL [(0,[0,1]),(1,[0,1,7,8])]) (fun _=>[]) (fun (Q:AEx->St R.σ->Prop)=>WpC Tryd.prog R 19 2 103 [1,0,1,0] Q [Kont.blk 0,Kont.seq [1,1]] (St.mk [(0,ow true 0 (List.length l) 1),(1,fn 73 0 (nth []) 1 (nth [ref 1 0])),(7,i6 (↑(List.length l):Int)),(8,i6 0)] [cO (List.length l*1) fun (a:Nat)=>af l a,cO 1 fun (x:Nat)=>int u64 (↑on:Int)] g)) (?_)
 refine(a9 krf (fun (i:Nat)=>⟨[(0,ow true 0 (l.length) 1),(1,fn 73 0 (nth []) 1 (nth [ref 1 0])),(7,i6 (l.length:Int)),(8,.int .i64 (i:Int))],[cO (l.length*1) fun (a:Nat)=>af l a,cO 1 fun (x:Nat)=>int u64 (on:Int)],g⟩) (fun (i:Nat)=>(i<=l.length/\aF (cq on) l 0=aF (cq on) (l.drop i) i)) (fun (i:Nat)=>(l.length-i)) 0 (aT ⟨Bs _,Bs _,Bs _,(Bt krf),trivial⟩ rfl rfl) ?_ (fun i hi=>?_))
 ·exact⟨Nat.zero_le _,rfl⟩
 ·obtain⟨h1,h2⟩:=hi
  rcases Nat.lt_or_ge i l.length with hlt|hge
  ·have hat:=ha _ (bO l 0 hlt)
   have hd:=fQ l 0 hlt
   rw[hd,zh] at h2
   refine vcR [] (lkL [(2,[0,1,7,8,9]),(3,[0,1,5,7,8]),(4,[0,1,5,7,8,16]),(5,[4]),(6,[0,1,7,8])]) (lkL [(4,[(5,ROrc.kcall (AV.bool !Nat.testBit on (Int.toNat (List.getD l i 0))))])]) (fun Q=>(fun (u1:List AObj)=>(fun (u2:Int)=>(fun (u3:Int)=>(fun (u4:Bool)=>(decide (u3<u2)=true->(0<=u3/\u3<u2)/\i+1<=List.length l*1/\(true=true/\Does Tryd.prog R 73 [af l i,ref 1 0] u1 g (ret (AV.bool u4)) u1 g)/\(u4=true->Q AEx.ret (St.mk [(4,i6 u3)] u1 g))/\(u4=false->(-9223372036854775808<=u3+1/\u3+1<=9223372036854775807)/\Q AEx.normal (St.mk [(0,ow true 0 (List.length l) 1),(1,fn 73 0 (nth []) 1 (nth [ref 1 0])),(7,i6 u2),(8,i6 (u3+1))] u1 g)))/\(decide (u3<u2)=false->Q (AEx.exit 0) (St.mk [(0,ow true 0 (List.length l) 1),(1,fn 73 0 (nth []) 1 (nth [ref 1 0])),(7,i6 u2),(8,i6 u3),(9,AV.bool (decide (u3<u2)))] u1 g))) (!Nat.testBit on (Int.toNat (List.getD l i 0)))) ((↑i:Int))) ((↑(List.length l):Int))) ([cO (List.length l*1) fun a=>af l a,cO 1 fun x=>int u64 (↑on:Int)])) ⟨fun c1=>have c1:(↑i:Int)<(↑(List.length l):Int):=(of_decide_eq_true c1);⟨omg,omg,⟨rfl,(doS [1] 2 (fun R g=>sL R (on) (List.getD l i 0) omg omg g))⟩,fun c2=>have c2:Nat.testBit on (Int.toNat (List.getD l i 0))=false:=((Bool.not_eq_true' _).mp c2);?_,fun c2=>have c2:Nat.testBit on (Int.toNat (List.getD l i 0))=true:=((Bool.not_eq_false' _).mp c2);⟨omg,?_⟩⟩,fun c1=>have c1:¬(↑i:Int)<(↑(List.length l):Int):=(of_decide_eq_false c1);?_⟩
   ·have hq:cq on (l.getD i 0)=true:=by unfold cq;rw[c2];rfl
    rw[if_pos hq] at h2
    rw[h2]
    refine⟨_,BE _,(aq (aP _ _ rfl trivial rfl rfl rfl) (Bs _))⟩
   ·have hq:cq on (l.getD i 0)=false:=by unfold cq;rw[c2];rfl
    rw[if_neg (by rw[hq];decide)] at h2
    refine(aO (i+1) (aT ⟨Bs _,Bs _,Bs _,(Bt krf),trivial⟩ rfl rfl) ?_ ?_)
    ·exact⟨omg,h2⟩
    ·omega
   ·exfalso;omega
  ·have hie:i=l.length:=by omega
   subst hie
   rw[List.drop_length] at h2
   have hb:decide ((l.length:Int)<(l.length:Int))=false:=decide_eq_false omg
   refine vcR [[1,0,1,0,0,1,0,0]] (lkL [(2,[0,1,7,8,9])]) (fun _=>[]) (fun Q=>(fun (u1:Int)=>(fun (u2:St R.σ)=>(decide (u1<u1)=true->WpC Tryd.prog R 19 2 103 [1,0,1,0,0,1,0,0] Q [Kont.seq [1,0,1,0,0,1,1]] u2)/\(decide (u1<u1)=false->Q (AEx.exit 0) u2)) (St.mk [(0,ow true 0 (List.length l) 1),(1,fn 73 0 (nth []) 1 (nth [ref 1 0])),(7,i6 u1),(8,i6 u1),(9,AV.bool (decide (u1<u1)))] [cO (List.length l*1) fun a=>af l a,cO 1 fun x=>int u64 (↑on:Int)] g)) ((↑(List.length l):Int))) ⟨fun hcc=>(nomatch (hb.symm.trans hcc)),fun _=>?_⟩
   refine⟨_,BE _,vcR [] (lkL [(7,[4])]) (fun _=>[]) (fun (Q:AEx->St R.σ->Prop)=>Q AEx.ret (St.mk [(4,i6 (-1))] [cO (List.length l*1) fun (a:Nat)=>af l a,cO 1 fun (x:Nat)=>int u64 (↑on:Int)] g)) (?_)⟩
   rw[h2]
   refine(aq (aP _ _ rfl trivial rfl rfl rfl) (Bt krf))
def cl (on:Nat)(l:List Int)(j:Nat):List Int:=(l.take j).filter (fun a=>on.testBit a.toNat)
def cr (on:Nat)(l:List Int)(j:Nat):Nat->AV:=fun c=>if c<(cl on l j).length then .int .i64 ((cl on l j).getD c 0) else if j<=c then .int .i64 (l.getD c 0) else .any
theorem rt {k:Nat}(on:Nat)(l:List Int)(j c:Nat):Below k (cr on l j c):=by
 unfold cr
 split
 ·trivial
 ·split <;> trivial
theorem rG {f:Nat->Nat}(h:True){on:Nat}{l:List Int}{j c:Nat}:aK f (cr on l j c)=cr on l j c:=by
 unfold cr
 split
 ·rfl
 ·split <;> rfl
theorem sN {on:Nat}{l:List Int}{j:Nat}(h:j<l.length):cl on l (j+1)=if on.testBit (l.getD j 0).toNat then cl on l j++[l.getD j 0] else cl on l j:=by
 unfold cl
 rw[List.take_add_one,List.filter_append,List.getElem?_eq_getElem h,List.getD_eq_getElem?_getD,List.getElem?_eq_getElem h]
 cases hb:on.testBit l[j].toNat <;> simp[hb]
def aY (on:Nat)(l:List Int):List Int:=l.filter (fun a=>on.testBit a.toNat)
theorem zi {on:Nat}{l:List Int}{k:Nat}(hk:k<=l.length)(h:∀j,j<k->cq on (l.getD j 0)=false):cl on l k=l.take k:=by
 unfold cl
 rw[List.filter_eq_self]
 intro a ha
 obtain⟨j,hj,e⟩:=List.mem_iff_getElem.1 ha
 rw[List.length_take] at hj
 have:=h j omg
 rw[List.getD_eq_getElem?_getD,List.getElem?_eq_getElem omg] at this
 unfold cq at this
 rw[List.getElem_take] at e
 rw[<-e]
 simpa using this
theorem zj (R:Res)(l:List Int)(on:Nat)(hon:on<2^24)(hl:0<l.length/\l.length<1000000)(ha:∀a,a∈l->0<=a/\a<24)(g:R.σ):Does Tryd.prog R 72 [.ow true 0 l.length 1,.fn 73 0 (nth []) 1 (nth [.ref 1 0])] [cO (l.length*1) (af l),cO 1 (fun _=>.int .u64 on)] g (.ret (.sl 0 0 (aY on l).length l.length false 1)) [cO ((aY on l).length*1) (af (aY on l)),cO 1 (fun _=>.int .u64 on)] g:=by
 by_cases h0:0<=aF (cq on) l 0
 ·obtain⟨k,k1,k2,k3,k4⟩:=gY (cq on) 0 l 0 h0
  rw[Nat.zero_add] at k2
  have hkp:=zi omg k4
  refine spW (nt:=42) (rs:=[.tmp 4]) (k0:=2) ?_
  have hk1:cl on l (k+1)=l.take k:=by
   rw[sN k1,hkp,if_neg (by unfold cq at k3;simpa using k3)]
  have hkl:(cl on l (k+1)).length=k:=by rw[hk1,List.length_take];omega
  refine vcR [] (lkL [(0,[0,1]),(1,[0,1,5]),(2,[0,1,5,12]),(3,[4]),(4,[0,1,5,6])]) (lkL [(1,[(2,ROrc.kcall (i6 (aF (cq on) l 0)))])]) (fun Q=>(fun (u1:List AObj)=>(fun (u2:Int)=>(fun (u3:AV)=>(true=true/\Does Tryd.prog R 103 [u3,fn 73 0 (nth []) 1 (nth [ref 1 0])] u1 g (ret (i6 u2)) u1 g)/\((u2 == -1)=true->Q AEx.ret (St.mk [(4,u3)] u1 g))/\((u2 == -1)=false->(-9223372036854775808<=u2+1/\u2+1<=9223372036854775807)/\WpC Tryd.prog R 42 2 72 [1,1,1,0,1,0] Q [Kont.blk 0,Kont.seq [1,1,1,1]] (St.mk [(0,u3),(1,fn 73 0 (nth []) 1 (nth [ref 1 0])),(5,i6 u2),(6,i6 (u2+1))] u1 g))) (ow true 0 (List.length l) 1)) (aF (cq on) l 0)) ([cO (List.length l*1) fun a=>af l a,cO 1 fun x=>int u64 (↑on:Int)])) ⟨⟨rfl,(sM _ _ _ omg omg omg _)⟩,fun c1=>have c1:aF (cq on) l 0 = -1:=(beq_iff_eq.mp c1);?_,fun c1=>have c1:¬aF (cq on) l 0 = -1:=(beq_eq_false_iff_ne.mp c1);⟨omg,?_⟩⟩
  ·exact absurd c1 omg
  ·rw[k2]
   refine(a9 krf (fun (x:Nat)=>⟨[(0,ow true 0 (l.length) 1),(1,fn 73 0 (nth []) 1 (nth [ref 1 0])),(5,.int .i64 (cl on l x).length),(6,.int .i64 x)],[cO (l.length*1) (cr on l x),cO 1 (fun _=>.int .u64 on)],g⟩) (fun (x:Nat)=>(x<=l.length/\(cl on l x).length<x)) (fun (x:Nat)=>(l.length-x)) (k+1) (toL (h1:=⟨Bs _,Bs _,(Bt ?_),(Bt krf),trivial⟩) (h2:=⟨?_,Bu,trivial⟩)) ?_ (fun x hi=>?_))
   ·show AV.int .i64 _=AV.int .i64 _
    rw[hkl]
   ·refine⟨rfl,Nat.le_refl _,fun c hc=>?_⟩
    show Le (af l c) (cr on l (k+1) c)
    unfold cr
    rw[hkl]
    split
    ·refine Bt ?_
     show AV.int .i64 _=AV.int .i64 _
     rw[hk1,List.getD_eq_getElem?_getD,List.getD_eq_getElem?_getD,List.getElem?_take,if_pos omg]
    ·split
     ·exact Bs _
     ·exact Le.any _
   ·exact⟨omg,omg⟩
   ·obtain⟨h1,h2⟩:=hi
    rcases Nat.lt_or_ge x l.length with hlt|hge
    ·have hat:=ha _ (bO l 0 hlt)
     have hks:=sN (on:=on) hlt
     have hdx:cr on l x x=.int .i64 (l.getD x 0):=by
      unfold cr
      rw[if_neg omg,if_pos (Nat.le_refl _)]
     refine vcR [] (lkL [(5,[0,1,5,6,19]),(7,[0,1,5,6,7]),(8,[0,1,5,6,7,29]),(9,[0,1,5,6]),(10,[0,1,5,6]),(6,[0,1,5,6])]) (lkL [(7,[(3,ROrc.kop (i6 (List.getD l x 0)))]),(8,[(2,ROrc.kcall (AV.bool !Nat.testBit on (Int.toNat (List.getD l x 0))))])]) (fun Q=>(fun (u1:List AObj)=>(fun (u2:Int)=>(fun (u3:Int)=>(fun (u4:Int)=>(fun (u5:List (Nat × AV))=>(fun (u6:Bool)=>(fun (u7:AV)=>(decide (u4<u3)=true->(0<=u4/\u4<u3)/\OpOk Tryd.prog R (Oper.mk (some 25) (Op.load 3 (Operand.tmp 24)) 3 "slices.go:248" #[Edge.mk 2 Ground.data] none) (evO [Row.mk (some 24) none (ref 0 x) false (some []) [],Row.mk (some 23) none (i6 u4) false (some []) [],Row.mk (some 22) none u7 false (some []) []] u5 []) u1 g (af l x) u1 g/\(true=true/\Does Tryd.prog R 73 [af l x,ref 1 0] u1 g (ret (AV.bool u6)) u1 g)/\((!u6)=true->(0<=u2/\u2<u3)/\List.length (cl on l x)+1<=List.length l*1/\(-9223372036854775808<=u2+1/\u2+1<=9223372036854775807)/\(-9223372036854775808<=u4+1/\u4+1<=9223372036854775807)/\Q AEx.normal (St.mk [(0,u7),(1,fn 73 0 (nth []) 1 (nth [ref 1 0])),(5,i6 (u2+1)),(6,i6 (u4+1))] [cO (List.length l*1) (al (cr on l x) (List.length (cl on l x)) 1 fun x_3=>af l x),cO 1 fun x=>int u64 (↑on:Int)] g))/\((!u6)=false->(-9223372036854775808<=u4+1/\u4+1<=9223372036854775807)/\Q AEx.normal (St.mk [(0,u7),(1,fn 73 0 (nth []) 1 (nth [ref 1 0])),(5,i6 u2),(6,i6 (u4+1))] u1 g)))/\(decide (u4<u3)=false->Q (AEx.exit 0) (St.mk u5 u1 g))) (ow true 0 (List.length l) 1)) (!Nat.testBit on (Int.toNat (List.getD l x 0)))) ([(0,ow true 0 (List.length l) 1),(1,fn 73 0 (nth []) 1 (nth [ref 1 0])),(5,i6 u2),(6,i6 u4),(19,AV.bool (decide (u4<u3)))])) ((↑x:Int))) ((↑(List.length l):Int))) ((↑(List.length (cl on l x)):Int))) ([cO (List.length l*1) (cr on l x),cO 1 fun x=>int u64 (↑on:Int)])) ⟨fun c1=>have c1:(↑x:Int)<(↑(List.length l):Int):=(of_decide_eq_true c1);⟨omg,?_,⟨rfl,(doS [1] 2 (fun R g=>sL R (on) (List.getD l x 0) omg omg g))⟩,fun c2=>have c2:Nat.testBit on (Int.toNat (List.getD l x 0))=true:=((Bool.not_eq_false' _).mp ((Bool.not_eq_true' _).mp c2));⟨omg,omg,omg,omg,?_⟩,fun c2=>have c2:Nat.testBit on (Int.toNat (List.getD l x 0))=false:=((Bool.not_eq_true' _).mp ((Bool.not_eq_false' _).mp c2));⟨omg,?_⟩⟩,fun c1=>have c1:¬(↑x:Int)<(↑(List.length l):Int):=(of_decide_eq_false c1);?_⟩
     ·exact d6 rfl rfl krf rfl (by show _+1<=_;omega) hdx
     ·rw[if_pos c2] at hks
      refine(aO (x+1) (toL (h1:=⟨Bs _,Bs _,(Bt ?_),(Bt krf),trivial⟩) (h2:=⟨?_,Bu,trivial⟩)) ?_ ?_)
      ·show AV.int .i64 _=AV.int .i64 _
       rw[hks,List.length_append]
       rfl
      ·refine⟨rfl,Nat.le_refl _,fun c hc=>?_⟩
       rw[dt]
       unfold cr
       rw[hks,List.length_append,List.length_singleton]
       rcases Nat.lt_trichotomy c (cl on l x).length with h|h|h
       ·rw[if_neg omg,if_pos h,if_pos omg,List.getD_eq_getElem?_getD,List.getD_eq_getElem?_getD,List.getElem?_append_left h]
        exact Bs _
       ·subst h
        rw[if_pos omg,if_pos omg,List.getD_eq_getElem?_getD,List.getElem?_append_right (Nat.le_refl _),Nat.sub_self]
        exact Bs _
       ·rw[if_neg (show ¬((cl on l x).length<=c/\c<(cl on l x).length+1) by omega),if_neg (show ¬c<(cl on l x).length by omega),if_neg (show ¬c<(cl on l x).length+1 by omega)]
        by_cases h3:x+1<=c
        ·rw[if_pos (show x<=c by omega),if_pos h3];exact Bs _
        ·rw[if_neg h3];exact Le.any _
      ·refine⟨omg,?_⟩
       rw[hks,List.length_append,List.length_singleton]
       omega
      ·omega
     ·rw[if_neg (by rw[c2];decide)] at hks
      refine(aO (x+1) (toL (h1:=⟨Bs _,Bs _,(Bt ?_),(Bt krf),trivial⟩) (h2:=⟨?_,Bu,trivial⟩)) ?_ ?_)
      ·show AV.int .i64 _=AV.int .i64 _
       rw[hks]
      ·refine⟨rfl,Nat.le_refl _,fun c hc=>?_⟩
       unfold cr
       rw[hks]
       by_cases h:c<(cl on l x).length
       ·rw[if_pos h,if_pos h];exact Bs _
       ·rw[if_neg h,if_neg h]
        by_cases h3:x+1<=c
        ·rw[if_pos omg,if_pos h3];exact Bs _
        ·rw[if_neg h3];exact Le.any _
      ·refine⟨omg,?_⟩
       rw[hks]
       omega
      ·omega
     ·exfalso;omega
    ·have hxe:x=l.length:=by omega
     subst hxe
     have hkk:cl on l l.length=aY on l:=by unfold cl aY;rw[List.take_length]
     rw[hkk] at h2 ⊢
     have hb:decide ((l.length:Int)<(l.length:Int))=false:=decide_eq_false omg
     refine vcR [[1,1,1,0,1,0,0,0,1,0]] (lkL [(5,[0,1,5,6,19])]) (fun _=>[]) (fun Q=>(fun (u1:Int)=>(fun (u2:St R.σ)=>(decide (u1<u1)=true->WpC Tryd.prog R 42 2 72 [1,1,1,0,1,0,0,0,1,0] Q [Kont.seq [1,1,1,0,1,0,0,1]] u2)/\(decide (u1<u1)=false->Q (AEx.exit 0) u2)) (St.mk [(0,ow true 0 (List.length l) 1),(1,fn 73 0 (nth []) 1 (nth [ref 1 0])),(5,i6 (↑(List.length (aY on l)):Int)),(6,i6 u1),(19,AV.bool (decide (u1<u1)))] [cO (List.length l*1) (cr on l (List.length l)),cO 1 fun x=>int u64 (↑on:Int)] g)) ((↑(List.length l):Int))) ⟨fun hcc=>(nomatch (hb.symm.trans hcc)),fun _=>?_⟩
     refine⟨_,BE _,vcR [] (lkL [(11,[0,5]),(12,[4])]) (lkL [(11,[(3,ROrc.own any [cO (List.length (aY on l)*1) (cr on l (List.length l)),cO 1 fun (x:Nat)=>int u64 (↑on:Int)] g)])]) (fun Q=>(fun (u1:Nat)=>(fun (u2:Int)=>(fun (u3:AObj)=>(fun (u4:Int)=>List.length l<=List.length l/\(0<=u4/\u4<=u2)/\u1<List.length l/\OpOk Tryd.prog R (Oper.mk none (Op.call (Call.mk (Callee.builtin Builtin.clear) #[Operand.tmp 38] #[53])) 0 "slices.go:253" #[Edge.mk 2 Ground.data] none) (evO [Row.mk (some 38) none (sl 0 (u1*1) (List.length l-u1) (List.length l-u1) false 1) false (some []) [],Row.mk (some 37) none (i6 u4) false (some []) [],Row.mk (some 36) none (ow true 0 (List.length l) 1) false (some []) []] [(0,ow true 0 (List.length l) 1),(1,fn 73 0 (nth []) 1 (nth [ref 1 0])),(5,i6 u4),(6,i6 u2),(19,AV.bool (decide (u2<u2)))] []) [cO (List.length l*1) (cr on l (List.length l)),u3] g any [cO (u1*1) (cr on l (List.length l)),u3] g/\(0<=u4/\u4<=u2)/\0<List.length l/\Q AEx.ret (St.mk [(4,sl 0 0 (u1-0) (List.length l-0) false 1)] [cO (u1*1) (cr on l (List.length l)),u3] g)) ((↑u1:Int))) (cO 1 fun x=>int u64 (↑on:Int))) ((↑(List.length l):Int))) (List.length (aY on l))) ⟨omg,omg,omg,?_,omg,omg,?_⟩⟩
     ·obtain⟨ei,hei⟩:=wc (ty:=ax Tryd.prog) (t:=53) (es:=1) krf
      refine rY (wb (t:=53) (es:=1) (N:=l.length*1) (len:=l.length-(aY on l).length) (get0:=cr on l l.length) rfl rfl rfl rfl rfl rfl hei omg (Nat.le_refl _) dcd omg) rfl
     ·show bC Tryd.prog R 2 _ _ _ _ .ret _
      refine ff (.sl 0 0 ((aY on l).length-0) (l.length-0) false 1) _ rfl trivial (toL (h2:=⟨⟨rfl,Nat.le_refl _,fun c hc=>Bt ?_⟩,Bv _,trivial⟩))
      show cr on l l.length c=af (aY on l) c
      unfold cr
      rw[hkk,if_pos omg]
      rfl
 ·have hm:=lU (cq on) l 0 h0
  have hk:aY on l=l:=by
   unfold aY
   rw[List.filter_eq_self]
   intro a ha
   have:=hm.2 a ha
   unfold cq at this
   simpa using this
  rw[hk]
  refine spW (nt:=42) (rs:=[.tmp 4]) (k0:=2) ?_
  refine vcR [] (lkL [(0,[0,1]),(1,[0,1,5]),(2,[0,1,5,12]),(3,[4]),(4,[0,1,5,6])]) (lkL [(1,[(2,ROrc.kcall (i6 (aF (cq on) l 0)))])]) (fun Q=>(fun (u1:List AObj)=>(fun (u2:Int)=>(fun (u3:AV)=>(true=true/\Does Tryd.prog R 103 [u3,fn 73 0 (nth []) 1 (nth [ref 1 0])] u1 g (ret (i6 u2)) u1 g)/\((u2 == -1)=true->Q AEx.ret (St.mk [(4,u3)] u1 g))/\((u2 == -1)=false->(-9223372036854775808<=u2+1/\u2+1<=9223372036854775807)/\WpC Tryd.prog R 42 2 72 [1,1,1,0,1,0] Q [Kont.blk 0,Kont.seq [1,1,1,1]] (St.mk [(0,u3),(1,fn 73 0 (nth []) 1 (nth [ref 1 0])),(5,i6 u2),(6,i6 (u2+1))] u1 g))) (ow true 0 (List.length l) 1)) (aF (cq on) l 0)) ([cO (List.length l*1) fun a=>af l a,cO 1 fun x=>int u64 (↑on:Int)])) ⟨⟨rfl,(sM _ _ _ omg omg omg _)⟩,fun c1=>have c1:aF (cq on) l 0 = -1:=(beq_iff_eq.mp c1);?_,fun c1=>have c1:¬aF (cq on) l 0 = -1:=(beq_eq_false_iff_ne.mp c1);⟨omg,?_⟩⟩
  ·refine ff (.ow true 0 l.length 1) _ rfl trivial (toL (h1:=⟨Le.ow_sl omg,trivial⟩) (h2:=⟨Bv _,Bv _,trivial⟩))
  ·exact absurd hm.1 c1
def aL (on:Nat)(l:List Rule):List Rule:=l.filter (fun r=>on.testBit r.head.toNat)
def bj (on:Nat):List Rule->Nat->List Int
 |[],_=>[]
 |r::l,i=>if on.testBit r.head.toNat then(i:Int)::bj on l (i+1) else bj on l (i+1)
theorem sO (on:Nat):∀(l:List Rule) (i:Nat),(bj on l i).length=(aL on l).length
 |[],_=>rfl
 |r::l,i=>by
  unfold bj aL
  rw[List.filter_cons]
  have ih:=sO on l (i+1)
  unfold aL at ih
  split <;> simp[ih]
theorem sP (on:Nat):∀(l l':List Rule) (i:Nat),bj on (l++l') i=bj on l i++bj on l' (i+l.length)
 |[],l',i=>rfl
 |r::l,l',i=>by
  show(if on.testBit r.head.toNat then(i:Int)::bj on (l++l') (i+1) else bj on (l++l') (i+1))=(if on.testBit r.head.toNat then(i:Int)::bj on l (i+1) else bj on l (i+1))++_
  rw[sP on l l' (i+1),show i+1+l.length=i+(r::l).length by simp;omega]
  split <;> rfl
theorem zk {on:Nat}{l:List Rule}{i:Nat}(h:i<l.length):aL on (l.take (i+1))=if on.testBit (l.getD i default).head.toNat then aL on (l.take i)++[l.getD i default] else aL on (l.take i):=by
 unfold aL
 rw[List.take_add_one,List.filter_append,List.getElem?_eq_getElem h,List.getD_eq_getElem?_getD,List.getElem?_eq_getElem h]
 cases hb:on.testBit l[i].head.toNat <;> simp[hb]
theorem zl {on:Nat}{l:List Rule}{i:Nat}(h:i<l.length):bj on (l.take (i+1)) 0=if on.testBit (l.getD i default).head.toNat then bj on (l.take i) 0++[(i:Int)] else bj on (l.take i) 0:=by
 rw[List.take_add_one,List.getElem?_eq_getElem h,List.getD_eq_getElem?_getD,List.getElem?_eq_getElem h,Option.toList_some,sP,List.length_take,Nat.min_eq_left omg,Nat.zero_add]
 show _++(if on.testBit l[i].head.toNat then(i:Int)::[] else[])=_
 rw[Option.getD_some]
 split <;> simp
theorem zm {q:List Int}{s:Int}{c:Nat}{z:Nat->AV}(hc:c<(q.length+1)*1):af (q++[s]) c=aZ 1 q.length (fun i j=>af q (i*1+j)) (fun i j=>al z 0 1 (fun _=>.int .i64 s) (0+i*1+j)) c:=by
 unfold aZ
 by_cases h:c<q.length*1
 ·rw[if_pos h]
  show _=af q (c/1*1+c%1)
  rw[show c/1*1+c%1=c by omega]
  unfold af
  rw[List.getD_eq_getElem?_getD,List.getElem?_append_left omg,<-List.getD_eq_getElem?_getD]
 ·rw[if_neg h]
  show _=al z 0 1 _ (0+(c-q.length*1)/1*1+(c-q.length*1)%1)
  rw[dt,if_pos omg,show c=q.length by omega]
  unfold af
  rw[List.getD_eq_getElem?_getD,List.getElem?_append_right (Nat.le_refl _),Nat.sub_self]
  rfl
theorem nY {k:Nat}(l:List Rule)(j:Nat):Below k (bb l j):=lv _ _
theorem rE {f:Nat->Nat}(h:True){l:List Rule}{j:Nat}:aK f (bb l j)=bb l j:=lx _ _
theorem nat1_rng:∀(k n d j:Nat),j<k->ar (rng k n) d j=n+j
 |0,_,_,_,h=>absurd h (Nat.not_lt_zero _)
 |k+1,n,d,0,_=>rfl
 |k+1,n,d,j+1,h=>by
  show ar (rng k (n+1)) d j=_
  rw[nat1_rng k (n+1) d j omg]
  omega
theorem lZ {n:Nat}{c:Nat->AV}(h:∀j,j<n->Below 0 (c j))(f:Nat->Nat):LeO (cO n c) (bX f (cO n c)):=⟨rfl,Nat.le_refl _,fun j hj=>bt (h j hj)⟩
def cd (b:Nat)(l:List Stp):Nat->AV:=fun c=>bif Nat.beq (c%2) 0 then .int .i64 (l.getD (c/2) default).rule else .ow true (b+c/2) (l.getD (c/2) default).atoms.length 1
theorem oQ {f:Nat->Nat}{b b':Nat}{l:List Stp}{c:Nat}(h:f (b+c/2)=b'+c/2):aK f (cd b l c)=cd b' l c:=by
 unfold cd
 cases Nat.beq (c%2) 0 with
 |true=>rfl
 |false=>
  show AV.ow true (f (b+c/2)) _ 1=_
  rw[h]
  rfl
theorem zn (R:Res)[hT:Tab LT R](p:Prg)(n0 n1 n2 n3:Nat)(c0 c1 c2 c3:Nat->AV)(b0:∀j,j<n0->Below 0 (c0 j))(b1:∀j,j<n1->Below 0 (c1 j))(b2:∀j,j<n2->Below 0 (c2 j))(b3:∀j,j<n3->Below 0 (c3 j))(hl:p.rules.l.length<1000000)(hr:∀r,r∈p.rules.l->aE r)(hp:bZ p)(hh:cG p)(g:R.σ):Does Tryd.prog R 60 [av p] [cO n0 c0,cO n1 c1,cO n2 c2,cO n3 c3] g (.ret (.tup 2 (nth [.ow true 5 (ak p).1.length 2,.ref 4 0])))
  (cO n0 c0::cO n1 c1::cO n2 c2::cO n3 c3::cO 27 (aN (ak p).2)::cO ((ak p).1.length*2) (cd 6 (ak p).1)::bJ (ab (ak p).1) []) g:=by
 have hlen:=lW hp hr hh
 have h1:Does Tryd.prog R 60 [av p] [cO n0 c0,cO n1 c1,cO n2 c2,cO n3 c3] g (.ret (.tup 2 (nth [.ow true 6 (ak p).1.length 2,.ref 4 0])))
   (cO n0 c0::cO n1 c1::cO n2 c2::cO n3 c3::cO 27 (ae p (ak p).2 (.mp 5))::.map (esF p.rules.l)::cO ((ak p).1.length*2) (cd 7 (ak p).1)::bJ (ab (ak p).1) []) g:=
  er hT [] 4 (fun R _ g=>su R p hl hr hp hh g) rfl rfl rfl trivial trivial ⟨bt (by exact⟨⟨trivial,trivial⟩,trivial⟩),trivial⟩ (Bw (fun j hj=>match j,hj with|0,_=>Bs _|1,_=>Bs _)) ⟨Bv _,Bv _,Bv _,Bv _,BC (fun j hj=>cb (by rfl)),rfl,BC (fun c hc=>oQ (b:=3) (by
   show ar ([]++rng 27 4) (4+27) (3+c/2)=7+c/2
   rw[List.nil_append,nat1_rng 27 4 31 (3+c/2) omg]
   omega)),Bv _,Bv _,Bv _,Bv _,Bv _,Bv _,Bv _,Bv _,Bv _,Bv _,Bv _,Bv _,Bv _,Bv _,Bv _,Bv _,Bv _,Bv _,Bv _,Bv _,Bv _,Bv _,Bv _,Bv _,trivial⟩
 refine iH h1 (toS [0,1,2,3,4,6,7,8,9,10,11,12,13,14,15,16,17,18,19,20,21,22,23,24,25,26,27,28,29,30] 31 (hob:=?_))
 refine⟨lZ b0 _,lZ b1 _,lZ b2 _,lZ b3 _,⟨rfl,Nat.le_refl _,fun j hj=>by
  show Le (ae p _ (.mp 5) j) (aK _ (aN _ j))
  rw[dv trivial]
  exact sw⟩,BC (fun c hc=>?_),Bv _,Bv _,Bv _,Bv _,Bv _,Bv _,Bv _,Bv _,Bv _,Bv _,Bv _,Bv _,Bv _,Bv _,Bv _,Bv _,Bv _,Bv _,Bv _,Bv _,Bv _,Bv _,Bv _,Bv _,trivial⟩
 refine(oQ (b:=6) (b':=7) (c:=c) ?_).symm
 have h:(List.range 24).all (fun i=>ar [0,1,2,3,4,6,7,8,9,10,11,12,13,14,15,16,17,18,19,20,21,22,23,24,25,26,27,28,29,30] 31 (6+i)==7+i)=true:=by decide +kernel
 simpa using (List.all_eq_true.1 h) (c/2) (List.mem_range.2 omg)
def az (p:Prg)(on:Nat):Prg:=⟨p.atoms,aL on p.rules.l,.auto⟩
theorem zo {p:Prg}{on:Nat}{hp:List AObj}{k m o:Nat}(ho:ag hp o=cO ((aL on p.rules.l).length*2) (bb (aL on p.rules.l)))(hk:k<=o):ay hp k m (.ow true o (aL on p.rules.l).length 2) (ad (az p on).rules):=
 (ay.ow ho hk (Nat.le_refl _) dcd (fun j _=>Bz (nY _ _))).le (By rfl (fun i j hi hj=>by
  show bb _ (i*2+j)=bG _ j
  unfold bb
  rw[show(i*2+j)/2=i by omega,show(i*2+j)%2=j by omega]
  rfl))
def kg (p:Prg)(s:Stp):Prop:=(0<=s.rule->s.rule<p.rules.l.length)/\0<s.atoms.length/\s.atoms.length<=24/\∀a,a∈s.atoms->0<=a/\a<p.atoms
theorem zp {p:Prg}{v:Nat->Int}(hp:bZ p)(hr:∀r,r∈p.rules.l->aE r)(hh:cG p)(hb:aU p v=true):kg p (aj p v):=by
 obtain⟨h1,h2⟩:=sj (v:=v) hp hr hh
 by_cases h:0<=bf p v
 ·obtain⟨k,k1,k2,_,_⟩:=gY (de v) default p.rules.l 0 h
  have hn:aj p v=⟨bf p v,[(p.rules.l.getD (bf p v).toNat default).head]⟩:=if_pos h
  have hf:bf p v=k:=by unfold bf;rw[k2];simp
  refine⟨fun _=>?_,?_,h2,h1⟩
  ·rw[hn];show bf p v<_;omega
  ·rw[hn];exact Nat.zero_lt_one
 ·obtain⟨k0,k1,_,_,_⟩:=j5 hp h hb
  refine⟨fun h=>?_,?_,h2,h1⟩
  ·rw[k0] at h
   exact absurd h (by show ¬(0:Int) <= -1;omega)
  ·unfold dd at k1
   rw[Bool.and_eq_true] at k1
   exact of_decide_eq_true k1.1
theorem oR {p:Prg}(hp:bZ p)(hr:∀r,r∈p.rules.l->aE r)(hh:cG p):∀(n:Nat) (v:Nat->Int) (l:List Stp),(∀s,s∈l->kg p s)->∀s,s∈(cH p n v l).1->kg p s
 |0,_,_,h=>h
 |n+1,v,l,h=>by
  show ∀s,s∈(if aU p v then cH p n (bq v (aj p v)) (l++[aj p v]) else(l,v)).1->kg p s
  by_cases hb:aU p v=true
  ·rw[if_pos hb]
   refine oR hp hr hh n _ _ (fun s hs=>?_)
   rcases List.mem_append.1 hs with hs|hs
   ·exact h s hs
   ·have:s=aj p v:=by simpa using hs
    rw[this]
    exact zp hp hr hh hb
  ·rw[if_neg hb]
   exact h
def g8 (nums:List Int)(s:Stp):Int:=if 0<=s.rule then nums.getD s.rule.toNat 0 else s.rule
def ac (on:Nat)(l:List Stp)(i j:Nat):AObj:=cO ((if j<i then aY on (l.getD j default).atoms else(l.getD j default).atoms).length*1) (af (if j<i then aY on (l.getD j default).atoms else(l.getD j default).atoms))
def aX (on:Nat)(l:List Stp)(i:Nat):List Nat:=(List.range i).filter (fun k=>decide (0<(aY on (l.getD k default).atoms).length))
def bB (on:Nat)(nums:List Int)(l:List Stp)(q:List Nat):Nat->AV:=fun c=>bif Nat.beq (c%2) 0 then .int .i64 (g8 nums (l.getD (q.getD (c/2) 0) default)) else .sl (6+q.getD (c/2) 0) 0 (aY on (l.getD (q.getD (c/2) 0) default).atoms).length (l.getD (q.getD (c/2) 0) default).atoms.length false 1
def g9 (k:Nat):List Nat:=[0,1,2,3,4,5,6,7,8,9,10,11,12,13,14,15,16,17,18,19,20,21,22,23,24,25,26,27,28,29,k]
theorem sQ {k n j:Nat}(hj:j<30):ar (g9 k) n j=j:=by
 have h:j=0∨j=1∨j=2∨j=3∨j=4∨j=5∨j=6∨j=7∨j=8∨j=9∨j=10∨j=11∨j=12∨j=13∨j=14∨j=15∨j=16∨j=17∨j=18∨j=19∨j=20∨j=21∨j=22∨j=23∨j=24∨j=25∨j=26∨j=27∨j=28∨j=29:=by omega
 rcases h with rfl|rfl|rfl|rfl|rfl|rfl|rfl|rfl|rfl|rfl|rfl|rfl|rfl|rfl|rfl|rfl|rfl|rfl|rfl|rfl|rfl|rfl|rfl|rfl|rfl|rfl|rfl|rfl|rfl|rfl <;> rfl
theorem kh {f:Nat->AObj}{x0 x1 x2 x3 x4 x5:AObj}{r:List AObj}{a:Nat}(ha:a<24):ag (x0::x1::x2::x3::x4::x5::bJ f r) (6+a)=f a:=by
 rw[show 6+a=a+6 by omega]
 exact lO ha
theorem sR {f:Nat->AObj}{x0 x1 x2 x3 x4 x5:AObj}{r:List AObj}{a:Nat}:ag (x0::x1::x2::x3::x4::x5::bJ f r) (30+a)=ag r a:=by
 rw[show 30+a=a+30 by omega]
 rfl
theorem zq {on:Nat}{l:List Stp}{i j:Nat}(h:j≠i):ac on l (i+1) j=ac on l i j:=by
 unfold ac
 by_cases hj:j<i
 ·rw[if_pos hj,if_pos (show j<i+1 by omega)]
 ·rw[if_neg hj,if_neg (show ¬j<i+1 by omega)]
theorem zr {on:Nat}{l:List Stp}{i:Nat}:ac on l i i=cO ((l.getD i default).atoms.length*1) (af (l.getD i default).atoms):=by
 unfold ac
 rw[if_neg (Nat.lt_irrefl i)]
theorem zt {on:Nat}{l:List Stp}{i:Nat}:ac on l (i+1) i=cO ((aY on (l.getD i default).atoms).length*1) (af (aY on (l.getD i default).atoms)):=by
 unfold ac
 rw[if_pos (Nat.lt_succ_self i)]
theorem sS (R:Res)(on:Nat)(L:List Stp)(i:Nat)(x0 x2 x3 x4 x5 o30 o31:AObj)(hi:i<24)(hon:on<2^24)(hl:0<(L.getD i default).atoms.length/\(L.getD i default).atoms.length<1000000)(ha:∀a,a∈(L.getD i default).atoms->0<=a/\a<24)(g:R.σ) :
  Does Tryd.prog R 72 [.ow true (6+i) (L.getD i default).atoms.length 1,.fn 73 0 (nth []) 1 (nth [.ref 1 0])] (x0::cO 1 (fun _=>.int .u64 on)::x2::x3::x4::x5::bJ (ac on L i) [o30,o31]) g
   (.ret (.sl (6+i) 0 (aY on (L.getD i default).atoms).length (L.getD i default).atoms.length false 1)) (x0::cO 1 (fun _=>.int .u64 on)::x2::x3::x4::x5::bJ (ac on L (i+1)) [o30,o31]) g:=by
 have hlt:bF [6+i,1] 32=true:=by
  show(Nat.blt (6+i) 32&&(Nat.blt 1 32&&true))=true
  rw[show Nat.blt (6+i) 32=true by rw[Nat.blt_eq];omega]
  rfl
 have hnd:cK [6+i,1]=true:=by
  show(!(bif Nat.beq (6+i) 1 then true else false)&&(!false&&true))=true
  rw[oC (show 6+i≠1 by omega)]
  rfl
 refine eI [6+i,1] 32 (fun R g=>zj R (L.getD i default).atoms on hon hl ha g) rfl hlt hnd ⟨?_,Bv _,trivial⟩ ⟨omg,omg,trivial⟩ ⟨Bs _,Le.fn (fun i hi=>absurd hi (Nat.not_lt_zero _)) (fun i hi=>match i,hi with|0,_=>Bs _),trivial⟩ (Bs _) ?_
 ·rw[kh hi,zr]
  exact Bv _
 ·refine nK (by rw[jD];rfl) (fun x hx=>?_) (fun x hx=>?_) ⟨?_,Bv _,trivial⟩
  ·rw[jD]
   show x<32
   rcases List.mem_cons.1 hx with h|h
   ·omega
   ·have:x=1:=by simpa using h
    omega
  ·rw[nM _ _ _ hx]
   have hx1:x≠6+i:=fun e=>hx (by rw[e];exact List.mem_cons_self)
   rcases Nat.lt_or_ge x 6 with h|h
   ·match x,h with
    |0,_=>exact Bv _
    |1,_=>exact Bv _
    |2,_=>exact Bv _
    |3,_=>exact Bv _
    |4,_=>exact Bv _
    |5,_=>exact Bv _
   ·rcases Nat.lt_or_ge x 30 with h2|h2
    ·obtain⟨a,rfl⟩:∃a,x=6+a:=⟨x-6,omg⟩
     rw[kh omg,kh omg,zq omg]
     exact Bv _
    ·obtain⟨a,rfl⟩:∃a,x=30+a:=⟨x-30,omg⟩
     rw[sR,sR]
     exact Bv _
  ·rw[kh hi,zt]
   exact Bv _
theorem sT {L:List Stp}{i:Nat}:Le (.agg 2 (fun j=>cd 6 L (j+i*2))) (.agg 2 (nth [.int .i64 (L.getD i default).rule,.ow true (6+i) (L.getD i default).atoms.length 1])):=by
 refine Bx (fun j hj=>Bt ?_)
 unfold cd
 match j,hj with
 |0,_=>
  rw[show(0+i*2)%2=0 by omega,show(0+i*2)/2=i by omega]
  rfl
 |1,_=>
  rw[show(1+i*2)%2=1 by omega,show(1+i*2)/2=i by omega]
  rfl
theorem sU {on:Nat}{nums:List Int}{l:List Stp}{q:List Nat}{i c:Nat}{z:Nat->AV}(hc:c<(q.length+1)*2):bB on nums l (q++[i]) c=aZ 2 q.length (fun a j=>bB on nums l q (a*2+j)) (fun a j=>al z 0 2 (nth [.int .i64 (g8 nums (l.getD i default)),.sl (6+i) 0 (aY on (l.getD i default).atoms).length (l.getD i default).atoms.length false 1]) (0+a*2+j)) c:=by
 unfold aZ
 by_cases h:c<q.length*2
 ·rw[if_pos h]
  show _=bB on nums l q (c/2*2+c%2)
  rw[show c/2*2+c%2=c by omega]
  unfold bB
  rw[List.getD_eq_getElem?_getD (l:=q++[i]),List.getElem?_append_left omg,<-List.getD_eq_getElem?_getD]
 ·rw[if_neg h]
  show _=al z 0 2 _ (0+(c-q.length*2)/2*2+(c-q.length*2)%2)
  rw[dt,if_pos omg]
  unfold bB
  rw[show c/2=q.length by omega,List.getD_eq_getElem?_getD (l:=q++[i]),List.getElem?_append_right (Nat.le_refl _),Nat.sub_self]
  have h2:c=q.length*2∨c=q.length*2+1:=by omega
  rcases h2 with rfl|rfl
  ·rw[show q.length*2%2=0 by omega,show 0+(q.length*2-q.length*2)/2*2+(q.length*2-q.length*2)%2-0=0 by omega]
   rfl
  ·rw[show(q.length*2+1)%2=1 by omega,show 0+(q.length*2+1-q.length*2)/2*2+(q.length*2+1-q.length*2)%2-0=1 by omega]
   rfl
theorem l0 {on:Nat}{l:List Stp}{i:Nat}:aX on l (i+1)=if 0<(aY on (l.getD i default).atoms).length then aX on l i++[i] else aX on l i:=by
 have e:([i].filter (fun k=>decide (0<(aY on (l.getD k default).atoms).length)))=if 0<(aY on (l.getD i default).atoms).length then[i] else[]:=by
  rw[List.filter_cons,List.filter_nil]
  by_cases h:0<(aY on (l.getD i default).atoms).length
  ·rw[if_pos h,decide_eq_true h];rfl
  ·rw[if_neg h,decide_eq_false h];rfl
 unfold aX
 rw[List.range_succ,List.filter_append,e]
 by_cases h:0<(aY on (l.getD i default).atoms).length
 ·rw[if_pos h,if_pos h]
 ·rw[if_neg h,if_neg h,List.append_nil]
theorem zu {on:Nat}{l:List Stp}{i c:Nat}(hi:0<i):(aX on l i).getD c 0<i:=by
 rcases Nat.lt_or_ge c (aX on l i).length with h|h
 ·have:=bO (aX on l i) 0 h
  have h2:=(List.mem_filter.1 this).1
  exact List.mem_range.1 h2
 ·rw[List.getD_eq_getElem?_getD,List.getElem?_eq_none h]
  exact hi
theorem zv {f:Nat->Nat}{on:Nat}{nums:List Int}{l:List Stp}{q:List Nat}{c:Nat}(h:f (6+q.getD (c/2) 0)=6+q.getD (c/2) 0):aK f (bB on nums l q c)=bB on nums l q c:=by
 unfold bB
 cases Nat.beq (c%2) 0 with
 |true=>rfl
 |false=>
  show AV.sl (f (6+q.getD (c/2) 0)) 0 _ _ false 1=AV.sl (6+q.getD (c/2) 0) 0 _ _ false 1
  rw[h]
def zw (p:Prg)(on:Nat)(NU:List Int)(V:Nat->Int)(L:List Stp)(i m:Nat):List AObj:=cO 2 (nth [.int .i64 p.atoms,ad p.rules])::cO 1 (fun _=>.int .u64 on)::cO 2 (nth [.int .i64 p.atoms,ad (az p on).rules])::cO ((aL on p.rules.l).length*1) (af NU)::cO 27 (aN V)::cO (L.length*2) (cd 6 L)::bJ (ac on L i) [cO (m*2) (bB on NU L (aX on L i))]
theorem l4 {p:Prg}{on:Nat}{NU:List Int}{V:Nat->Int}{L:List Stp}{i m k n:Nat}{r:List AObj}(hL:L.length<=24)(hi:i<24)(hm:m=(aX on L (i+1)).length)(hk:ag (cO 2 (nth [.int .i64 p.atoms,ad p.rules])::cO 1 (fun _=>.int .u64 on)::cO 2 (nth [.int .i64 p.atoms,ad (az p on).rules])::cO ((aL on p.rules.l).length*1) (af NU)::cO 27 (aN V)::cO (L.length*2) (cd 6 L)::bJ (ac on L (i+1)) r) k=cO (m*2) (bB on NU L (aX on L (i+1)))) :
  cZ (ar (g9 k) n) (cO 2 (nth [.int .i64 p.atoms,ad p.rules])::cO 1 (fun _=>.int .u64 on)::cO 2 (nth [.int .i64 p.atoms,ad (az p on).rules])::cO ((aL on p.rules.l).length*1) (af NU)::cO 27 (aN V)::cO (L.length*2) (cd 6 L)::bJ (ac on L (i+1)) r) (g9 k) (zw p on NU V L (i+1) m):=by
 refine⟨iM,Bv _,iM,Bv _,BC (fun j hj=>(dv trivial).symm),BC (fun c hc=>(oQ (b:=6) (b':=6) (c:=c) (sQ omg)).symm),Bv _,Bv _,Bv _,Bv _,Bv _,Bv _,Bv _,Bv _,Bv _,Bv _,Bv _,Bv _,Bv _,Bv _,Bv _,Bv _,Bv _,Bv _,Bv _,Bv _,Bv _,Bv _,Bv _,Bv _,?_,trivial⟩
 rw[hk]
 refine BC (fun c hc=>(zv (sQ ?_)).symm)
 have:=zu (on:=on) (l:=L) (i:=i+1) (c:=c/2) omg
 omega
def ed (on:Nat)(nums:List Int)(l:List Stp):KL Step:=⟨(aX on l l.length).map (fun k=>⟨g8 nums (l.getD k default),aY on (l.getD k default).atoms,.opn⟩),.auto⟩
theorem zx {hp:List AObj}{on:Nat}{NU:List Int}{L:List Stp}{m:Nat}(hm:m=(aX on L L.length).length)(hL:L.length<=24)(h30:ag hp 30=cO (m*2) (bB on NU L (aX on L L.length)))(hin:∀k,k<L.length->ag hp (6+k)=ac on L L.length k):ay hp 0 0 (.ow true 30 m 2) (aB (ed on NU L)):=by
 subst hm
 refine ay.le (ay.ow h30 (Nat.zero_le _) (Nat.le_refl _) dcd (get:=fun c=>bif Nat.beq (c%2) 0 then .int .i64 (g8 NU (L.getD ((aX on L L.length).getD (c/2) 0) default)) else ah ⟨aY on (L.getD ((aX on L L.length).getD (c/2) 0) default).atoms,.opn⟩) (fun c hc=>?_)) ?_
 ·unfold bB
  cases Nat.beq (c%2) 0 with
  |true=>exact Bz trivial
  |false=>
   have hc2:c/2<(aX on L L.length).length:=by omega
   obtain⟨k,hk⟩:∃k,(aX on L L.length).getD (c/2) 0=k:=⟨_,rfl⟩
   have hmem:=bO (aX on L L.length) 0 hc2
   rw[hk] at hmem
   have hk2:=List.mem_filter.1 hmem
   have hkl:k<L.length:=List.mem_range.1 hk2.1
   have hpos:0<(aY on (L.getD k default).atoms).length:=of_decide_eq_true hk2.2
   have hle:(aY on (L.getD k default).atoms).length<=(L.getD k default).atoms.length:=List.length_filter_le _ _
   rw[hk]
   have h6:=hin k hkl
   unfold ac at h6
   rw[if_pos hkl] at h6
   exact(ay.sl h6 (Nat.zero_le _) omg hle dcd (fun j _=>Bz (d7 _ _))).le (By rfl (fun i j hi hj=>by
    show af _ (0+i*1+j)=AV.int .i64 _
    rw[show 0+i*1+j=i by omega]
    rfl))
 ·have hl2:(ed on NU L).l.length=(aX on L L.length).length:=by unfold ed;rw[List.length_map]
  refine By hl2.symm (fun i j hi hj=>?_)
  have hg:(ed on NU L).l.getD i default=⟨g8 NU (L.getD ((aX on L L.length).getD i 0) default),aY on (L.getD ((aX on L L.length).getD i 0) default).atoms,.opn⟩:=by
   unfold ed
   rw[List.getD_eq_getElem?_getD,List.getElem?_map,List.getElem?_eq_getElem hi,List.getD_eq_getElem?_getD (l:=aX on L L.length),List.getElem?_eq_getElem hi]
   rfl
  show _=cS _ j
  rw[hg]
  show(bif Nat.beq ((i*2+j)%2) 0 then _ else _)=_
  rw[show(i*2+j)%2=j by omega,show(i*2+j)/2=i by omega]
  match j,hj with
  |0,_=>rfl
  |1,_=>rfl
theorem zy (R:Res)[Tab LT R](p:Prg)(goal:Int)(hb:aD p=true)(hg:0<=goal/\goal<p.atoms)(g:R.σ):Does Tryd.prog R 25 [av p,.int .i64 goal] [] g (.ret (.tup 3 (nth [.int .i64 ((ak (az p (hgP p goal.toNat))).2 goal.toNat),aB (ed (hgP p goal.toNat) (bj (hgP p goal.toNat) p.rules.l 0) (ak (az p (hgP p goal.toNat))).1),.int .i64 0]))) [] g:=by
 obtain⟨hl,hr,hp,hh,hx⟩:=ez hb
 have hs:eK p:=gZ hb
 have hp':1<=p.atoms/\p.atoms<=24:=hp
 have hroom:aC=140737488355328:=rfl
 have hlt:hgP p goal.toNat<2^24:=g6 hr omg
 refine spW (nt:=98) (rs:=[.tmp 4,.tmp 5,.tmp 6]) (k0:=0) ?_
 have hc:(bif ((if aD p then(0:Int) else 2) != 0) then true else !decide (0<=goal/\goal<=p.atoms-1))=false:=by
  rw[hb,decide_eq_true omg]
  rfl
 refine vcR [[1,0,1,0]] (lkL [(0,[1,2]),(1,[1,2,27]),(3,[1,2,7]),(4,[1,2,7,8]),(5,[1,2,7,8,9]),(6,[1,7,8,9,35,36,37])]) (lkL [(1,[(1,ROrc.pcall (i6 (if aD p=true then 0 else 2))),(8,ROrc.pcall (AV.bool (decide (0<=goal/\goal<=p.atoms-1))))]),(3,[(2,ROrc.pcall (int u64 (↑(hgP p (Int.toNat goal)):Int))),(4,ROrc.val (Orc.obj (nth [int u64 (↑(hgP p (Int.toNat goal)):Int)])))]),(4,[(4,ROrc.val (Orc.obj (nth [i6 p.atoms,fz Fz.nil 0 0 fun (x x_1:Nat)=>any])))])]) (fun Q=>(fun (u1:Bool)=>(fun (u2:AV)=>(fun (u3:AV)=>(fun (u4:Int)=>(fun (u5:AV)=>2<=2/\(∀(hp:List AObj) (g:R.σ),true=true/\Does Tryd.prog R 16 [av p] hp g (ret (i6 u4)) hp g)/\((!u4 != 0)=true->1<=2)/\((!u4 != 0)=true -> -9223372036854775808<=p.atoms-1/\p.atoms-1<=9223372036854775807)/\((!u4 != 0)=true->∀(hp:List AObj) (g:R.σ),true=true/\Does Tryd.prog R 58 [i6 goal,i6 0,i6 (p.atoms-1)] hp g (ret (AV.bool (decide (0<=goal/\goal<=p.atoms-1)))) hp g)/\(u1=true->WpC Tryd.prog R 98 0 25 [1,0,1,0] Q [Kont.seq [1,1]] (St.mk [(1,i6 goal),(2,ref 0 0),(27,AV.bool u1)] [cO 2 (nth [u5,ad p.rules])] g))/\(u1=false->2<=2/\(∀(hp:List AObj) (g:R.σ),true=true/\Does Tryd.prog R 70 [av p,i6 goal] hp g (ret u3) hp g)/\1<=1/\(∀(c:Nat),c<1->nth [u3] c=al (fun (a:Nat)=>int u64 0) 0 1 (fun (x:Nat)=>u3) c)/\1<=2/\2<=2/\(∀(c:Nat),c<2->nth [u5,u2] c=al (nth [i6 0,u2]) 0 2 (List.brecOn (motive:=fun (x:List AV)=>Nat->AV) [u5,u2] nth._f) c)/\2<=2/\WpC Tryd.prog R 98 0 25 [1,1,1,1,1,0,1,0] Q [Kont.blk 0,Kont.seq [1,1,1,1,1,1]] (St.mk [(1,i6 goal),(7,ref 1 0),(8,ref 2 0),(9,u2),(35,ad p.rules),(36,i6 (↑(List.length p.rules.l):Int)),(37,i6 0)] [cO 2 (nth [u5,ad p.rules]),cO 1 (nth [u3]),cO 2 (nth [u5,u2])] g))) (i6 p.atoms)) (if aD p=true then 0 else 2)) (int u64 (↑(hgP p (Int.toNat goal)):Int))) (fz Fz.nil 0 0 fun x x_1=>any)) (bif (if aD p=true then 0 else 2) != 0 then true else !decide (0<=goal/\goal<=p.atoms-1))) ⟨omg,(fun _ _=>⟨rfl,(gP _ _ _ _ omg)⟩),omg,omg,(fun hgd=>(fun _ _=>⟨rfl,(dG _ _ _ _ _ _)⟩)),fun hcc=>(nomatch (hc.symm.trans hcc)),fun _=>⟨omg,(fun _ _=>⟨rfl,(sB _ _ _ omg omg omg _ _)⟩),omg,(fun c hc=>match c,hc with|0,_=>krf ),omg,omg,(fun c hc=>match c,hc with|0,_=>krf|1,_=>krf ),omg,?_⟩⟩
 obtain⟨on,hon⟩:∃on,hgP p goal.toNat=on:=⟨_,rfl⟩
 rw[hon] at hlt ⊢
 refine b9 (gq (fun _=>.any) 2) ?_
 refine(a9 krf (fun (x:Nat × Nat)=>⟨[(1,i6 goal),(7,ref 1 0),(8,ref 2 0),(9,.ow true 4 x.2 1),(35,ad p.rules),(36,i6 (p.rules.l.length:Int)),(37,.int .i64 x.1)],[cO 2 (nth [.int .i64 p.atoms,ad p.rules]),cO 1 (fun _=>.int .u64 on),cO 2 (nth [.int .i64 p.atoms,.ow true 3 x.2 2]),cO (x.2*2) (bb (aL on (p.rules.l.take x.1))),cO (x.2*1) (af (bj on (p.rules.l.take x.1) 0))],g⟩) (fun (x:Nat × Nat)=>(x.1<=p.rules.l.length/\x.2=(aL on (p.rules.l.take x.1)).length)) (fun (x:Nat × Nat)=>(p.rules.l.length-x.1)) ((0,0):Nat × Nat) (toL (h1:=⟨Bs _,Bs _,Bs _,Le.nil_ow,Bs _,Bs _,(Bt krf),trivial⟩) (h2:=⟨Bu,⟨rfl,Nat.le_refl _,fun j hj=>match j,hj with|0,_=>(Bs _) ⟩,⟨rfl,Nat.le_refl _,fun j hj=>match j,hj with|0,_=>(Bs _)|1,_=>Le.nil_ow ⟩,⟨rfl,Nat.le_refl _,fun j hj=>absurd hj (Nat.not_lt_zero j)⟩,⟨rfl,Nat.le_refl _,fun j hj=>absurd hj (Nat.not_lt_zero j)⟩,trivial⟩)) ?_ (fun x hi=>?_))
 ·exact⟨Nat.zero_le _,rfl⟩
 ·obtain⟨i,m⟩:=x
  obtain⟨hi,hm⟩:=hi
  simp only at hi hm
  have hpl:=sO on (p.rules.l.take i) 0
  have hple:(aL on (p.rules.l.take i)).length<=p.rules.l.length:=Nat.le_trans (List.length_filter_le _ _) (by rw[List.length_take];omega)
  rcases Nat.lt_or_ge i p.rules.l.length with hi'|hi'
  ·have hq:=hr _ (fl hi')
   have hq2:=hq.2
   have hpt:=zk (on:=on) hi'
   have hnt:=zl (on:=on) hi'
   refine vcR [] (lkL [(7,[1,7,8,9,35,36,37,38]),(8,[1,7,8,9,10,11,35,36,37]),(9,[1,7,8,9,10,11,35,36,37,45]),(10,[1,7,8,9,10,35,36,37]),(11,[1,7,8,9,35,36,37]),(12,[1,7,8,9,35,36,37])]) (lkL [(8,[(5,ROrc.val (Orc.obj (nth [i6 (List.getD p.rules.l i default).head,am (List.getD p.rules.l i default).body])))]),(9,[(3,ROrc.pcall (AV.bool (Nat.testBit on (Int.toNat (List.getD p.rules.l i default).head))))]),(10,[(4,ROrc.val (Orc.obj (bb (aL on (List.take i p.rules.l)++[List.getD p.rules.l i default])))),(6,ROrc.val (Orc.obj (nth [i6 p.atoms,ow true 7 (m+1) 2])))]),(11,[(3,ROrc.val (Orc.obj (af (bj on (List.take i p.rules.l) 0++[(↑i:Int)]))))])]) (fun Q=>(fun (u1:Rule)=>(fun (u2:Int)=>(fun (u3:Int)=>(fun (u4:List Rule)=>(fun (u5:List AV)=>(fun (u6:AObj)=>(fun (u7:AObj)=>(fun (u8:List AV)=>(fun (u9:List AV)=>(fun (u10:AObj)=>(fun (u11:List (Nat × AV))=>(fun (u12:Bool)=>(decide (u3<u2)=true->(0<=u3/\u3<u2)/\2<=2/\2<=2/\(∀(c:Nat),c<2->nth u5 c=al (nth u8) 0 2 (List.brecOn (motive:=fun (x:List AV)=>Nat->AV) u5 nth._f) c)/\1<=1/\1<=2/\(∀(hp:List AObj) (g:R.σ),true=true/\Does Tryd.prog R 71 [int u64 (↑on:Int),i6 u1.head] hp g (ret (AV.bool u12)) hp g)/\(u12=true->2<=2/\2<=2/\0<2/\(m+1)*32<=aC/\m+1<=aC/\2<=2/\m*2<=m*2/\(∀(c:Nat),c<(m+1)*2->bb (aL on u4++[u1]) c=aZ 2 m (fun (i j:Nat)=>bb (aL on u4) (i*2+j)) (fun (i j:Nat)=>al (fun (j:Nat)=>nth u8 (j%2)) 0 2 (List.brecOn (motive:=fun (x:List AV)=>Nat->AV) u5 nth._f) (0+i*2+j)) c)/\2<=2/\(∀(c:Nat),c<2->nth [i6 p.atoms,ow true 7 (m+1) 2] c=al (nth u9) 1 1 (fun (x:Nat)=>ow true 7 (m+1) 2) c)/\0<1/\(m+1)*8<=aC/\m+1<=aC/\1<=1/\m*1<=m*1/\(∀(c:Nat),c<(m+1)*1->af (bj on u4 0++[u3]) c=aZ 1 m (fun (i j:Nat)=>af (bj on u4 0) (i*1+j)) (fun (i j:Nat)=>al (fun (j:Nat)=>i6 0) 0 1 (fun (x:Nat)=>i6 u3) (0+i*1+j)) c)/\(-9223372036854775808<=u3+1/\u3+1<=9223372036854775807)/\Q AEx.normal (St.mk ((1,i6 goal)::(7,ref 1 0)::(8,ref 2 0)::(9,ow true 9 (m+1) 1)::u11) [u6,u7,cO 2 (nth [i6 p.atoms,ow true 7 (m+1) 2]),dead,dead,cO 2 (nth u5),cO 2 (al (fun (j:Nat)=>nth u8 (j%2)) 0 2 (List.brecOn (motive:=fun (x:List AV)=>Nat->AV) u5 nth._f)),cO ((m+1)*2) (bb (aL on u4++[u1])),cO 1 (al (fun (j:Nat)=>i6 0) 0 1 fun x=>i6 u3),cO ((m+1)*1) fun a=>af (bj on u4 0++[u3]) a] g))/\(u12=false->(-9223372036854775808<=u3+1/\u3+1<=9223372036854775807)/\Q AEx.normal (St.mk ((1,i6 goal)::(7,ref 1 0)::(8,ref 2 0)::(9,ow true 4 m 1)::u11) [u6,u7,cO 2 (nth u9),cO (m*2) (bb (aL on u4)),u10,cO 2 (nth u5)] g)))/\(decide (u3<u2)=false->Q (AEx.exit 0) (St.mk [(1,i6 goal),(7,ref 1 0),(8,ref 2 0),(9,ow true 4 m 1),(35,ad p.rules),(36,i6 u2),(37,i6 u3),(38,AV.bool (decide (u3<u2)))] [u6,u7,cO 2 (nth u9),cO (m*2) (bb (aL on u4)),u10] g))) (Nat.testBit on (Int.toNat u1.head))) ([(35,ad p.rules),(36,i6 u2),(37,i6 (u3+1))])) (cO (m*1) fun a=>af (bj on u4 0) a)) ([i6 p.atoms,ow true 3 m 2])) ([i6 0,fz Fz.nil 0 0 fun x x_1=>any])) (cO 1 fun x=>int u64 (↑on:Int))) (cO 2 (nth [i6 p.atoms,ad p.rules]))) ([i6 u1.head,am u1.body])) (List.take i p.rules.l)) ((↑i:Int))) ((↑(List.length p.rules.l):Int))) (List.getD p.rules.l i default)) ⟨fun c1=>have c1:(↑i:Int)<(↑(List.length p.rules.l):Int):=(of_decide_eq_true c1);⟨omg,omg,omg,(fun c hc=>match c,hc with|0,_=>krf|1,_=>krf ),omg,omg,(fun _ _=>⟨rfl,(od _ _ _ omg omg _ _)⟩),fun c2=>⟨omg,omg,omg,omg,omg,omg,omg,?_,omg,(fun c hc=>match c,hc with|0,_=>krf|1,_=>krf ),omg,omg,omg,omg,omg,?_,omg,?_⟩,fun c2=>⟨omg,?_⟩⟩,fun c1=>have c1:¬(↑i:Int)<(↑(List.length p.rules.l):Int):=(of_decide_eq_false c1);?_⟩
   ·intro c hc
    subst hm
    exact(rX (r:=p.rules.l.getD i default) (z:=fun j=>nth [.int .i64 0,.fz .nil 0 0 fun _ _=>.any] (j%2)) hc).trans krf
   ·intro c hc
    rw[hm,<-hpl] at hc ⊢
    exact(zm (z:=fun _=>.int .i64 0) hc).trans krf
   ·rw[if_pos c2] at hpt hnt
    refine(aO (i+1,m+1) (toS [0,1,2,7,9] 10 (hob:=⟨⟨rfl,Nat.le_refl _,fun j hj=>match j,hj with|0,_=>(Bs _)|1,_=>(Bs _) ⟩,⟨rfl,Nat.le_refl _,fun j hj=>match j,hj with|0,_=>(Bs _) ⟩,⟨rfl,Nat.le_refl _,fun j hj=>match j,hj with|0,_=>(Bs _)|1,_=>(Bs _) ⟩,?_,?_,trivial⟩)) ?_ ?_)
    ·show LeO (cO ((m+1)*2) (bb (aL on (p.rules.l.take i)++[p.rules.l.getD i default]))) (bX _ (cO ((m+1)*2) (bb (aL on (p.rules.l.take (i+1))))))
     rw[hpt,gO]
     exact Bv _
    ·show LeO (cO ((m+1)*1) (af (bj on (p.rules.l.take i) 0++[(i:Int)]))) (cO ((m+1)*1) (af (bj on (p.rules.l.take (i+1)) 0)))
     rw[hnt]
     exact Bv _
    ·refine⟨by show i+1<=_;omega,?_⟩
     show m+1=(aL on (p.rules.l.take (i+1))).length
     rw[hpt,List.length_append,<-hm]
     rfl
    ·show p.rules.l.length-(i+1)<p.rules.l.length-i
     omega
   ·rw[if_neg (by rw[c2];decide)] at hpt hnt
    refine(aO (i+1,m) (toS [0,1,2,3,4] 6 (hob:=⟨⟨rfl,Nat.le_refl _,fun j hj=>match j,hj with|0,_=>(Bs _)|1,_=>(Bs _) ⟩,⟨rfl,Nat.le_refl _,fun j hj=>match j,hj with|0,_=>(Bs _) ⟩,⟨rfl,Nat.le_refl _,fun j hj=>match j,hj with|0,_=>(Bs _)|1,_=>(Bs _) ⟩,?_,?_,trivial⟩)) ?_ ?_)
    ·show LeO (cO (m*2) (bb (aL on (p.rules.l.take i)))) (bX _ (cO (m*2) (bb (aL on (p.rules.l.take (i+1))))))
     rw[hpt,gO]
     exact Bv _
    ·show LeO (cO (m*1) (af (bj on (p.rules.l.take i) 0))) (cO (m*1) (af (bj on (p.rules.l.take (i+1)) 0)))
     rw[hnt]
     exact Bv _
    ·refine⟨by show i+1<=_;omega,?_⟩
     show m=(aL on (p.rules.l.take (i+1))).length
     rw[hpt,<-hm]
    ·show p.rules.l.length-(i+1)<p.rules.l.length-i
     omega
   ·exfalso;omega
  ·have hie:i=p.rules.l.length:=by omega
   subst hie
   rw[List.take_length] at hm hpl
   subst hm
   obtain⟨M,hM⟩:∃M,(aL on p.rules.l).length=M:=⟨_,rfl⟩
   refine b9 (toS (s':=⟨[(1,.int .i64 goal),(7,.ref 1 0),(8,.ref 2 0),(9,.ow true 3 (aL on p.rules.l).length 1),(35,ad p.rules),(36,.int .i64 p.rules.l.length),(37,.int .i64 p.rules.l.length)],[cO 2 (nth [.int .i64 p.atoms,ad p.rules]),cO 1 (fun _=>.int .u64 on),cO 2 (nth [.int .i64 p.atoms,.ow true 4 (aL on p.rules.l).length 2]),cO ((aL on p.rules.l).length*1) (af (bj on p.rules.l 0)),cO ((aL on p.rules.l).length*2) (bb (aL on p.rules.l))],g⟩) [0,1,2,4,3] 5 (hob:=⟨iM,Bv _,BC (fun j hj=>match j,hj with|0,_=>rfl|1,_=>rfl),?_,?_,trivial⟩)) ?_
   ·show LeO (cO ((aL on p.rules.l).length*1) (af (bj on (p.rules.l.take p.rules.l.length) 0))) _
    rw[List.take_length]
    exact Bv _
   ·show LeO (cO ((aL on p.rules.l).length*2) (bb (aL on (p.rules.l.take p.rules.l.length)))) _
    rw[List.take_length,gO]
    exact Bv _
   refine b9 (nQ 4 [(1,.int .i64 goal),(7,.ref 1 0),(8,.ref 2 0),(9,.ow true 3 (aL on p.rules.l).length 1),(35,ad p.rules),(36,.int .i64 p.rules.l.length),(37,.int .i64 p.rules.l.length)] [cO 2 (nth [.int .i64 p.atoms,ad p.rules]),cO 1 (fun _=>.int .u64 on),cO 2 (nth [.int .i64 p.atoms,ad (az p on).rules]),cO ((aL on p.rules.l).length*1) (af (bj on p.rules.l 0))] omg (by show 4<=5;omega) rfl (fun i hi=>?_) ⟨Bz trivial,Bz (show 1<4 by omega),Bz (show 2<4 by omega),Bz (show 3<4 by omega),Bz trivial,Bz trivial,Bz trivial,trivial⟩) ?_
   ·match i,hi with
    |0,_=>exact⟨rfl,rfl,fun j hj=>match j,hj with|0,_=>Bz trivial|1,_=>Bz trivial⟩
    |1,_=>exact⟨rfl,rfl,fun j _=>Bz trivial⟩
    |2,_=>exact⟨rfl,rfl,fun j hj=>match j,hj with|0,_=>Bz trivial|1,_=>zo (o:=4) rfl (Nat.le_refl _)⟩
    |3,_=>exact⟨rfl,rfl,fun j _=>Bz trivial⟩
   have hbb:decide ((p.rules.l.length:Int)<(p.rules.l.length:Int))=false:=decide_eq_false omg
   refine vcR [[1,1,1,1,1,0,1,0,0,1,0,0]] (lkL [(7,[1,7,8,9,35,36,37,38])]) (fun _=>[]) (fun Q=>(fun (u1:St R.σ)=>(fun (u2:Int)=>(decide (u2<u2)=true->WpC Tryd.prog R 98 0 25 [1,1,1,1,1,0,1,0,0,1,0,0] Q [Kont.seq [1,1,1,1,1,0,1,0,0,1,1]] u1)/\(decide (u2<u2)=false->Q (AEx.exit 0) u1)) ((↑(List.length p.rules.l):Int))) (St.mk [(1,i6 goal),(7,ref 1 0),(8,ref 2 0),(9,ow true 3 (List.length (aL on p.rules.l)) 1),(35,ad p.rules),(36,i6 (↑(List.length p.rules.l):Int)),(37,i6 (↑(List.length p.rules.l):Int)),(38,AV.bool (decide ((↑(List.length p.rules.l):Int)<(↑(List.length p.rules.l):Int))))] [cO 2 (nth [i6 p.atoms,ad p.rules]),cO 1 fun x=>int u64 (↑on:Int),cO 2 (nth [i6 p.atoms,fz Fz.auto 2 (List.length (az p on).rules.l) fun i=>bG (List.getD (az p on).rules.l i default)]),cO (List.length (aL on p.rules.l)*1) fun a=>af (bj on p.rules.l 0) a] g)) ⟨fun hcc=>(nomatch (hbb.symm.trans hcc)),fun _=>?_⟩
   have hlq:(az p on).rules.l.length<1000000:=Nat.lt_of_le_of_lt (List.length_filter_le _ _) hl
   have hrq:∀r,r∈(az p on).rules.l->aE r:=fun r h=>hr r (List.mem_filter.1 h).1
   have hpq:bZ (az p on):=hp
   have hhq:cG (az p on):=fun r h=>hh r (List.mem_filter.1 h).1
   have hD:=fun (R:Res) [Tab LT R] (n0 n1 n2 n3:Nat) (c0 c1 c2 c3:Nat->AV) (b0:∀j,j<n0->Below 0 (c0 j)) (b1:∀j,j<n1->Below 0 (c1 j)) (b2:∀j,j<n2->Below 0 (c2 j)) (b3:∀j,j<n3->Below 0 (c3 j)) (g:R.σ)=>zn R (az p on) n0 n1 n2 n3 c0 c1 c2 c3 b0 b1 b2 b3 hlq hrq hpq hhq g
   refine⟨_,BE _,vcR [] (lkL [(13,[1,7,9,12,13]),(14,[1,7,9,12,13,14]),(15,[1,7,9,13,14,62,63,64])]) (lkL [(13,[(1,ROrc.call (tup 2 (nth [ow true 5 (List.length (ak (az p on)).fst) 2,ref 4 0])) (cO 2 (nth [i6 p.atoms,ad p.rules])::(cO 1 fun (x:Nat)=>int u64 (↑on:Int))::cO 2 (nth [i6 p.atoms,fz Fz.auto 2 (List.length (az p on).rules.l) fun (i:Nat)=>bG (List.getD (az p on).rules.l i default)])::(cO (List.length (aL on p.rules.l)*1) fun (a:Nat)=>af (bj on p.rules.l 0) a)::cO 27 (aN (ak (az p on)).snd)::cO (List.length (ak (az p on)).fst*2) (cd 6 (ak (az p on)).fst)::bJ (ab (ak (az p on)).fst) []) g)])]) (fun Q=>(fun (u1:List AObj)=>(fun (u2:List AV)=>(fun (u3:Nat)=>2<=2/\(true=true/\Does Tryd.prog R 60 [agg 2 (nth u2)] [cO 2 (nth [i6 p.atoms,ad p.rules]),cO 1 fun x=>int u64 (↑on:Int),cO 2 (nth u2),cO (List.length (aL on p.rules.l)*1) fun a=>af (bj on p.rules.l 0) a] g (ret (tup 2 (nth [ow true 5 u3 2,ref 4 0]))) u1 g)/\WpC Tryd.prog R 98 0 25 [1,1,1,1,1,1,1,1,0,1,0] Q [Kont.blk 2,Kont.seq [1,1,1,1,1,1,1,1,1]] (St.mk [(1,i6 goal),(7,ref 1 0),(9,ow true 3 (List.length (aL on p.rules.l)) 1),(13,ref 4 0),(14,fz Fz.nil 0 0 fun x x_1=>any),(62,ow true 5 u3 2),(63,i6 (↑u3:Int)),(64,i6 0)] u1 g)) (List.length (ak (az p on)).fst)) ([i6 p.atoms,fz Fz.auto 2 (List.length (az p on).rules.l) fun i=>bG (List.getD (az p on).rules.l i default)])) ([cO 2 (nth [i6 p.atoms,ad p.rules]),cO 1 fun x=>int u64 (↑on:Int),cO 2 (nth [i6 p.atoms,fz Fz.auto 2 (List.length (az p on).rules.l) fun i=>bG (List.getD (az p on).rules.l i default)]),cO (List.length (aL on p.rules.l)*1) fun a=>af (bj on p.rules.l 0) a,cO 27 (aN (ak (az p on)).snd),cO (List.length (ak (az p on)).fst*2) (cd 6 (ak (az p on)).fst),ab (ak (az p on)).fst 0,ab (ak (az p on)).fst 1,ab (ak (az p on)).fst 2,ab (ak (az p on)).fst 3,ab (ak (az p on)).fst 4,ab (ak (az p on)).fst 5,ab (ak (az p on)).fst 6,ab (ak (az p on)).fst 7,ab (ak (az p on)).fst 8,ab (ak (az p on)).fst 9,ab (ak (az p on)).fst 10,ab (ak (az p on)).fst 11,ab (ak (az p on)).fst 12,ab (ak (az p on)).fst 13,ab (ak (az p on)).fst 14,ab (ak (az p on)).fst 15,ab (ak (az p on)).fst 16,ab (ak (az p on)).fst 17,ab (ak (az p on)).fst 18,ab (ak (az p on)).fst 19,ab (ak (az p on)).fst 20,ab (ak (az p on)).fst 21,ab (ak (az p on)).fst 22,ab (ak (az p on)).fst 23])) ⟨omg,⟨rfl,(hD _ _ _ _ _ _ _ _ _ ?_ ?_ ?_ ?_ _)⟩,?_⟩⟩
   ·exact fun j hj=>match j,hj with|0,_=>trivial|1,_=>trivial
   ·exact fun j _=>trivial
   ·exact fun j hj=>match j,hj with|0,_=>trivial|1,_=>trivial
   ·exact fun j _=>trivial
   obtain⟨L,hL⟩:∃L,(ak (az p on)).1=L:=⟨_,rfl⟩
   obtain⟨V,hV⟩:∃V,(ak (az p on)).2=V:=⟨_,rfl⟩
   obtain⟨NU,hNU⟩:∃NU,bj on p.rules.l 0=NU:=⟨_,rfl⟩
   have hL24:L.length<=24:=by rw[<-hL];exact lW hpq hrq hhq
   rw[hL,hV,hNU]
   refine b9 (gq (fun _=>.any) 1) ?_
   refine(a9 krf (fun (x:Nat × Nat)=>⟨[(1,i6 goal),(7,ref 1 0),(9,ow true 3 ((aL on p.rules.l).length) 1),(13,ref 4 0),(14,.ow true 30 x.2 2),(62,ow true 5 (L.length) 2),(63,i6 (L.length:Int)),(64,.int .i64 x.1)],(cO 2 (nth [.int .i64 p.atoms,ad p.rules])::cO 1 (fun _=>.int .u64 on)::cO 2 (nth [.int .i64 p.atoms,ad (az p on).rules])::cO ((aL on p.rules.l).length*1) (af NU)::cO 27 (aN V)::cO (L.length*2) (cd 6 L)::bJ (ac on L x.1) [cO (x.2*2) (bB on NU L (aX on L x.1))]),g⟩) (fun (x:Nat × Nat)=>(x.1<=L.length/\x.2=(aX on L x.1).length)) (fun (x:Nat × Nat)=>(L.length-x.1)) ((0,0):Nat × Nat) (toL (h1:=⟨Bs _,Bs _,Bs _,Bs _,Le.nil_ow,Bs _,Bs _,(Bt krf),trivial⟩) (h2:=⟨Bu,Bu,Bu,Bu,Bu,Bu,Bu,Bu,Bu,Bu,Bu,Bu,Bu,Bu,Bu,Bu,Bu,Bu,Bu,Bu,Bu,Bu,Bu,Bu,Bu,Bu,Bu,Bu,Bu,Bu,⟨rfl,Nat.le_refl _,fun j hj=>absurd hj (Nat.not_lt_zero j)⟩,trivial⟩)) ?_ (fun x hi=>?_))
   ·exact⟨Nat.zero_le _,rfl⟩
   ·obtain⟨i,m⟩:=x
    obtain⟨hi,hm⟩:=hi
    simp only at hi hm
    have hm24:m<=i:=by
     rw[hm]
     unfold aX
     exact Nat.le_trans (List.length_filter_le _ _) (by rw[List.length_range];omega)
    rcases Nat.lt_or_ge i L.length with hi'|hi'
    ·have hso:kg (az p on) (L.getD i default):=by
      have:=oR hpq hrq hhq 25 (fun _=>3) [] (fun s hs=>(by cases hs))
      exact this _ (by
       have h:L.getD i default∈L:=bO _ default hi'
       have h2:L.getD i default∈(ak (az p on)).1:=hL.symm▸h
       exact h2)
     obtain⟨o1,o2,o3,o4⟩:=hso
     have o1:0<=(L.getD i default).rule->(L.getD i default).rule<(aL on p.rules.l).length:=o1
     have o4:∀a,a∈(L.getD i default).atoms->0<=a/\a<24:=fun a ha=>by
      have:=o4 a ha
      have e:(az p on).atoms=p.atoms:=rfl
      omega
     by_cases hru:0<=(L.getD i default).rule
     ·have hru1:=o1 hru
      have hge:decide ((L.getD i default).rule >= 0)=true:=decide_eq_true hru
      have har:g8 NU (L.getD i default)=NU.getD (L.getD i default).rule.toNat 0:=if_pos hru
      refine vcR [[1,1,1,1,1,1,1,1,0,1,0,0,1,1,0,0,1,0,1,1]] (lkL [(16,[1,7,9,13,14,62,63,64,65]),(17,[1,7,9,13,14,16,62,63,64]),(18,[1,7,9,13,14,16,62,63,64,70]),(19,[1,7,9,13,14,16,62,63,64]),(20,[1,7,9,13,14,16,62,63,64]),(21,[1,7,9,13,14,16,62,63,64,85]),(22,[1,7,9,13,14,62,63,64]),(23,[1,7,9,13,14,62,63,64])]) (lkL [(17,[(1,ROrc.kop (agg 2 (nth [i6 (List.getD L i default).rule,ow true (6+i) (List.length (List.getD L i default).atoms) 1]))),(3,ROrc.val (Orc.obj (nth [i6 (List.getD L i default).rule,ow true (6+i) (List.length (List.getD L i default).atoms) 1])))]),(19,[(6,ROrc.val (Orc.obj (nth [af NU (Int.toNat (List.getD L i default).rule),ow true (6+i) (List.length (List.getD L i default).atoms) 1])))]),(20,[(3,ROrc.call (sl (6+i) 0 (List.length (aY on (List.getD L i default).atoms)) (List.length (List.getD L i default).atoms) false 1) (cO 2 (nth [i6 p.atoms,ad p.rules])::(cO 1 fun (x:Nat)=>int u64 (↑on:Int))::cO 2 (nth [i6 p.atoms,ad (az p on).rules])::cO (List.length (aL on p.rules.l)*1) (af NU)::cO 27 (aN V)::cO (List.length L*2) (cd 6 L)::bJ (ac on L (i+1)) [cO (m*2) (bB on NU L (aX on L i)),cO 2 (nth [i6 (List.getD NU (Int.toNat (List.getD L i default).rule) 0),ow true (6+i) (List.length (List.getD L i default).atoms) 1])]) g),(5,ROrc.val (Orc.obj (nth [af NU (Int.toNat (List.getD L i default).rule),sl (6+i) 0 (List.length (aY on (List.getD L i default).atoms)) (List.length (List.getD L i default).atoms) false 1])))]),(22,[(3,ROrc.val (Orc.obj (bB on NU L (aX on L i++[i]))))])]) (fun Q=>(fun (u1:List AObj)=>(fun (u2:Stp)=>(fun (u3:AObj)=>(fun (u4:AV)=>(fun (u5:AV)=>(fun (u6:Nat)=>(fun (u7:Int)=>(fun (u8:Nat)=>(fun (u9:AObj)=>(fun (u10:AV)=>(fun (u11:List (Nat × AV))=>(fun (u12:AObj)=>(fun (u13:AObj)=>(fun (u14:AObj)=>(fun (u15:AObj)=>(fun (u16:Int)=>(decide ((↑i:Int)<u7)=true->(0<=(↑i:Int)/\(↑i:Int)<u7)/\OpOk Tryd.prog R (Oper.mk (some 67) (Op.load 71 (Operand.tmp 66)) 71 "table.go:316" #[Edge.mk 0 Ground.data] none) (evO [Row.mk (some 66) none (ref 5 (i*2)) false (some []) []] u11 []) u1 g (agg 2 (nth [i6 u2.rule,u5])) u1 g/\2<=2/\(∀(c:Nat),c<2->nth [i6 u2.rule,u5] c=al (nth [i6 0,fz Fz.nil 0 0 fun x x_1=>any]) 0 2 (List.brecOn (motive:=fun (x:List AV)=>Nat->AV) [i6 u2.rule,u5] nth._f) c)/\1<=2/\(decide (u2.rule >= 0)=true->1<=2/\(0<=u2.rule/\u2.rule<(↑u6:Int))/\Int.toNat u2.rule+1<=u6*1/\1<=2/\(∀(c:Nat),c<2->nth [u10,u5] c=al (nth [i6 u2.rule,u5]) 0 1 (fun (x:Nat)=>u10) c)/\2<=2/\(true=true/\Does Tryd.prog R 72 [u5,fn 73 0 (nth []) 1 (nth [ref 1 0])] [u9,u12,u3,u13,cO 27 (aN V),u14,ac on L i 0,ac on L i 1,ac on L i 2,ac on L i 3,ac on L i 4,ac on L i 5,ac on L i 6,ac on L i 7,ac on L i 8,ac on L i 9,ac on L i 10,ac on L i 11,ac on L i 12,ac on L i 13,ac on L i 14,ac on L i 15,ac on L i 16,ac on L i 17,ac on L i 18,ac on L i 19,ac on L i 20,ac on L i 21,ac on L i 22,ac on L i 23,u15,cO 2 (nth [u10,u5])] g (ret u4) [u9,u12,u3,u13,cO 27 (aN V),u14,ac on L u8 0,ac on L u8 1,ac on L u8 2,ac on L u8 3,ac on L u8 4,ac on L u8 5,ac on L u8 6,ac on L u8 7,ac on L u8 8,ac on L u8 9,ac on L u8 10,ac on L u8 11,ac on L u8 12,ac on L u8 13,ac on L u8 14,ac on L u8 15,ac on L u8 16,ac on L u8 17,ac on L u8 18,ac on L u8 19,ac on L u8 20,ac on L u8 21,ac on L u8 22,ac on L u8 23,u15,cO 2 (nth [u10,u5])] g)/\2<=2/\(∀(c:Nat),c<2->nth [u10,u4] c=al (nth [u10,u5]) 1 1 (fun (x:Nat)=>u4) c)/\2<=2/\(decide (u16 > 0)=true->2<=2/\0<2/\(m+1)*32<=aC/\m+1<=aC/\2<=2/\m*2<=m*2/\(∀(c:Nat),c<(m+1)*2->bB on NU L (aX on L i++[i]) c=aZ 2 m (fun (i_1 j:Nat)=>bB on NU L (aX on L i) (i_1*2+j)) (fun (i j:Nat)=>al (fun (j:Nat)=>nth [i6 0,fz Fz.nil 0 0 fun x x_1=>any] (j%2)) 0 2 (List.brecOn (motive:=fun (x:List AV)=>Nat->AV) [u10,u4] nth._f) (0+i*2+j)) c)/\(-9223372036854775808<=(↑i:Int)+1/\(↑i:Int)+1<=9223372036854775807)/\Q AEx.normal (St.mk [(1,i6 goal),(7,ref 1 0),(9,ow true 3 u6 1),(13,ref 4 0),(14,ow true 33 (m+1) 2),(62,ow true 5 (List.length L) 2),(63,i6 u7),(64,i6 ((↑i:Int)+1))] [u9,u12,u3,u13,cO 27 (aN V),u14,ac on L u8 0,ac on L u8 1,ac on L u8 2,ac on L u8 3,ac on L u8 4,ac on L u8 5,ac on L u8 6,ac on L u8 7,ac on L u8 8,ac on L u8 9,ac on L u8 10,ac on L u8 11,ac on L u8 12,ac on L u8 13,ac on L u8 14,ac on L u8 15,ac on L u8 16,ac on L u8 17,ac on L u8 18,ac on L u8 19,ac on L u8 20,ac on L u8 21,ac on L u8 22,ac on L u8 23,dead,cO 2 (nth [u10,u4]),cO 2 (al (fun (j:Nat)=>nth [i6 0,fz Fz.nil 0 0 fun x x_1=>any] (j%2)) 0 2 (List.brecOn (motive:=fun (x:List AV)=>Nat->AV) [u10,u4] nth._f)),cO ((m+1)*2) (bB on NU L (aX on L i++[i]))] g))/\(decide (u16 > 0)=false->(-9223372036854775808<=(↑i:Int)+1/\(↑i:Int)+1<=9223372036854775807)/\Q AEx.normal (St.mk [(1,i6 goal),(7,ref 1 0),(9,ow true 3 u6 1),(13,ref 4 0),(14,ow true 30 m 2),(62,ow true 5 (List.length L) 2),(63,i6 u7),(64,i6 ((↑i:Int)+1))] [u9,u12,u3,u13,cO 27 (aN V),u14,ac on L u8 0,ac on L u8 1,ac on L u8 2,ac on L u8 3,ac on L u8 4,ac on L u8 5,ac on L u8 6,ac on L u8 7,ac on L u8 8,ac on L u8 9,ac on L u8 10,ac on L u8 11,ac on L u8 12,ac on L u8 13,ac on L u8 14,ac on L u8 15,ac on L u8 16,ac on L u8 17,ac on L u8 18,ac on L u8 19,ac on L u8 20,ac on L u8 21,ac on L u8 22,ac on L u8 23,u15,cO 2 (nth [u10,u4])] g)))/\(decide (u2.rule >= 0)=false->WpC Tryd.prog R 98 0 25 [1,1,1,1,1,1,1,1,0,1,0,0,1,1,0,0,1,0,1,1] Q [Kont.seq [1,1,1,1,1,1,1,1,0,1,0,0,1,1,0,0,1,1],Kont.blk 3,Kont.seq [1,1,1,1,1,1,1,1,0,1,0,0,1,1,1]] (St.mk [(1,i6 goal),(7,ref 1 0),(9,ow true 3 u6 1),(13,ref 4 0),(14,ow true 30 m 2),(16,ref 31 0),(62,ow true 5 (List.length L) 2),(63,i6 u7),(64,i6 (↑i:Int)),(70,AV.bool (decide (u2.rule >= 0)))] [u9,u12,u3,u13,cO 27 (aN V),u14,ac on L i 0,ac on L i 1,ac on L i 2,ac on L i 3,ac on L i 4,ac on L i 5,ac on L i 6,ac on L i 7,ac on L i 8,ac on L i 9,ac on L i 10,ac on L i 11,ac on L i 12,ac on L i 13,ac on L i 14,ac on L i 15,ac on L i 16,ac on L i 17,ac on L i 18,ac on L i 19,ac on L i 20,ac on L i 21,ac on L i 22,ac on L i 23,u15,cO 2 (nth [i6 u2.rule,u5])] g)))/\(decide ((↑i:Int)<u7)=false->Q (AEx.exit 2) (St.mk u11 u1 g))) ((↑(List.length (aY on u2.atoms)):Int))) (cO (m*2) (bB on NU L (aX on L i)))) (cO (List.length L*2) (cd 6 L))) (cO (u6*1) fun a=>af NU a)) (cO 1 fun x=>int u64 (↑on:Int))) ([(1,i6 goal),(7,ref 1 0),(9,ow true 3 u6 1),(13,ref 4 0),(14,ow true 30 m 2),(62,ow true 5 (List.length L) 2),(63,i6 u7),(64,i6 (↑i:Int)),(65,AV.bool (decide ((↑i:Int)<u7)))])) (af NU (Int.toNat u2.rule))) (cO 2 (nth [i6 p.atoms,ad p.rules]))) (i+1)) ((↑(List.length L):Int))) (List.length (aL on p.rules.l))) (ow true (6+i) (List.length u2.atoms) 1)) (sl (6+i) 0 (List.length (aY on u2.atoms)) (List.length u2.atoms) false 1)) (cO 2 (nth [i6 p.atoms,fz Fz.auto 2 (List.length (az p on).rules.l) fun i=>bG (List.getD (az p on).rules.l i default)]))) (List.getD L i default)) ([cO 2 (nth [i6 p.atoms,ad p.rules]),cO 1 fun x=>int u64 (↑on:Int),cO 2 (nth [i6 p.atoms,fz Fz.auto 2 (List.length (az p on).rules.l) fun i=>bG (List.getD (az p on).rules.l i default)]),cO (List.length (aL on p.rules.l)*1) fun a=>af NU a,cO 27 (aN V),cO (List.length L*2) (cd 6 L),ac on L i 0,ac on L i 1,ac on L i 2,ac on L i 3,ac on L i 4,ac on L i 5,ac on L i 6,ac on L i 7,ac on L i 8,ac on L i 9,ac on L i 10,ac on L i 11,ac on L i 12,ac on L i 13,ac on L i 14,ac on L i 15,ac on L i 16,ac on L i 17,ac on L i 18,ac on L i 19,ac on L i 20,ac on L i 21,ac on L i 22,ac on L i 23,cO (m*2) (bB on NU L (aX on L i))])) ⟨fun c1=>have c1:(↑i:Int)<(↑(List.length L):Int):=(of_decide_eq_true c1);⟨omg,?_,omg,(fun c hc=>match c,hc with|0,_=>krf|1,_=>krf ),omg,fun _=>⟨omg,omg,omg,omg,(fun c hc=>match c,hc with|0,_=>krf|1,_=>krf ),omg,?_,omg,(fun c hc=>match c,hc with|0,_=>krf|1,_=>krf ),omg,fun c2=>have c2:(↑(List.length (aY on (List.getD L i default).atoms)):Int) > 0:=(of_decide_eq_true c2);⟨omg,omg,omg,omg,omg,omg,?_,omg,?_⟩,fun c2=>have c2:¬(↑(List.length (aY on (List.getD L i default).atoms)):Int) > 0:=(of_decide_eq_false c2);⟨omg,?_⟩⟩,fun hcc=>(nomatch (hge.symm.trans hcc))⟩,fun c1=>have c1:¬(↑i:Int)<(↑(List.length L):Int):=(of_decide_eq_false c1);?_⟩
      ·exact qW rfl rfl krf rfl (by show i*2+2<=L.length*2;omega) sT
      ·exact⟨rfl,sS R on L i _ _ _ _ _ _ _ omg hlt ⟨o2,omg⟩ o4 g⟩
      ·intro c hc
       rw[hm] at hc ⊢
       exact(sU (on:=on) (nums:=NU) (l:=L) (q:=aX on L i) (i:=i) (z:=fun j=>nth [.int .i64 0,.fz .nil 0 0 fun _ _=>.any] (j%2)) hc).trans (by rw[har];kernel_rfl)
      ·have hsc:=l0 (on:=on) (l:=L) (i:=i)
       rw[if_pos (show 0<(aY on (L.getD i default).atoms).length by omega)] at hsc
       have hm2:m+1=(aX on L (i+1)).length:=by rw[hsc,List.length_append,<-hm];rfl
       refine aO (i+1,m+1) (toS (g9 33) 34 (hob:=l4 hL24 omg hm2 (by rw[hsc];rfl))) ⟨by show i+1<=_;omega,hm2⟩ (by show L.length-(i+1)<L.length-i;omega)
      ·have hsc:=l0 (on:=on) (l:=L) (i:=i)
       rw[if_neg (show ¬0<(aY on (L.getD i default).atoms).length by omega)] at hsc
       have hm2:m=(aX on L (i+1)).length:=by rw[hsc,<-hm]
       refine aO (i+1,m) (toS (g9 30) 32 (hob:=l4 hL24 omg hm2 (by rw[hsc];rfl))) ⟨by show i+1<=_;omega,hm2⟩ (by show L.length-(i+1)<L.length-i;omega)
      ·exfalso;omega
     ·have hge:decide ((L.getD i default).rule >= 0)=false:=decide_eq_false omg
      have har:g8 NU (L.getD i default)=(L.getD i default).rule:=if_neg hru
      refine vcR [[1,1,1,1,1,1,1,1,0,1,0,0,1,1,0,0,1,0,1,0]] (lkL [(16,[1,7,9,13,14,62,63,64,65]),(17,[1,7,9,13,14,16,62,63,64]),(18,[1,7,9,13,14,16,62,63,64,70]),(20,[1,7,9,13,14,16,62,63,64]),(21,[1,7,9,13,14,16,62,63,64,85]),(22,[1,7,9,13,14,62,63,64]),(23,[1,7,9,13,14,62,63,64])]) (lkL [(17,[(1,ROrc.kop (agg 2 (nth [i6 (List.getD L i default).rule,ow true (6+i) (List.length (List.getD L i default).atoms) 1]))),(3,ROrc.val (Orc.obj (nth [i6 (List.getD L i default).rule,ow true (6+i) (List.length (List.getD L i default).atoms) 1])))]),(20,[(3,ROrc.call (sl (6+i) 0 (List.length (aY on (List.getD L i default).atoms)) (List.length (List.getD L i default).atoms) false 1) (cO 2 (nth [i6 p.atoms,ad p.rules])::(cO 1 fun (x:Nat)=>int u64 (↑on:Int))::cO 2 (nth [i6 p.atoms,ad (az p on).rules])::cO (List.length (aL on p.rules.l)*1) (af NU)::cO 27 (aN V)::cO (List.length L*2) (cd 6 L)::bJ (ac on L (i+1)) [cO (m*2) (bB on NU L (aX on L i)),cO 2 (nth [i6 (List.getD L i default).rule,ow true (6+i) (List.length (List.getD L i default).atoms) 1])]) g),(5,ROrc.val (Orc.obj (nth [i6 (List.getD L i default).rule,sl (6+i) 0 (List.length (aY on (List.getD L i default).atoms)) (List.length (List.getD L i default).atoms) false 1])))]),(22,[(3,ROrc.val (Orc.obj (bB on NU L (aX on L i++[i]))))])]) (fun Q=>(fun (u1:List AObj)=>(fun (u2:List AObj)=>(fun (u3:Stp)=>(fun (u4:AV)=>(fun (u5:Int)=>(fun (u6:AObj)=>(fun (u7:List (Nat × AV))=>(fun (u8:List AV)=>(fun (u9:Nat)=>(fun (u10:Nat)=>(fun (u11:Int)=>(fun (u12:Int)=>(fun (u13:AObj)=>(fun (u14:AObj)=>(fun (u15:List AV)=>(fun (u16:AObj)=>(decide (u12<u5)=true->(0<=u12/\u12<u5)/\OpOk Tryd.prog R (Oper.mk (some 67) (Op.load 71 (Operand.tmp 66)) 71 "table.go:316" #[Edge.mk 0 Ground.data] none) (evO [Row.mk (some 66) none (ref 5 (i*2)) false (some []) []] u7 []) u1 g (agg 2 (nth u8)) u1 g/\2<=2/\(∀(c:Nat),c<2->nth u8 c=al (nth u15) 0 2 (List.brecOn (motive:=fun (x:List AV)=>Nat->AV) u8 nth._f) c)/\1<=2/\(decide (u3.rule >= 0)=true->WpC Tryd.prog R 98 0 25 [1,1,1,1,1,1,1,1,0,1,0,0,1,1,0,0,1,0,1,0] Q [Kont.seq [1,1,1,1,1,1,1,1,0,1,0,0,1,1,0,0,1,1],Kont.blk 3,Kont.seq [1,1,1,1,1,1,1,1,0,1,0,0,1,1,1]] (St.mk [(1,i6 goal),(7,ref 1 0),(9,ow true 3 u10 1),(13,ref 4 0),(14,ow true 30 m 2),(16,ref 31 0),(62,ow true 5 (List.length L) 2),(63,i6 u5),(64,i6 u12),(70,AV.bool (decide (u3.rule >= 0)))] u2 g))/\(decide (u3.rule >= 0)=false->2<=2/\(true=true/\Does Tryd.prog R 72 [ow true (6+i) (List.length u3.atoms) 1,fn 73 0 (nth []) 1 (nth [ref 1 0])] u2 g (ret u4) [u13,u14,u6,u16,cO 27 (aN V),cO (List.length L*2) (cd 6 L),ac on L u9 0,ac on L u9 1,ac on L u9 2,ac on L u9 3,ac on L u9 4,ac on L u9 5,ac on L u9 6,ac on L u9 7,ac on L u9 8,ac on L u9 9,ac on L u9 10,ac on L u9 11,ac on L u9 12,ac on L u9 13,ac on L u9 14,ac on L u9 15,ac on L u9 16,ac on L u9 17,ac on L u9 18,ac on L u9 19,ac on L u9 20,ac on L u9 21,ac on L u9 22,ac on L u9 23,cO (m*2) (bB on NU L (aX on L i)),cO 2 (nth u8)] g)/\2<=2/\(∀(c:Nat),c<2->nth [i6 u3.rule,u4] c=al (nth u8) 1 1 (fun (x:Nat)=>u4) c)/\2<=2/\(decide (u11 > 0)=true->2<=2/\0<2/\(m+1)*32<=aC/\m+1<=aC/\2<=2/\m*2<=m*2/\(∀(c:Nat),c<(m+1)*2->bB on NU L (aX on L i++[i]) c=aZ 2 m (fun (i_1 j:Nat)=>bB on NU L (aX on L i) (i_1*2+j)) (fun (i j:Nat)=>al (fun (j:Nat)=>nth u15 (j%2)) 0 2 (List.brecOn (motive:=fun (x:List AV)=>Nat->AV) [i6 u3.rule,u4] nth._f) (0+i*2+j)) c)/\(-9223372036854775808<=u12+1/\u12+1<=9223372036854775807)/\Q AEx.normal (St.mk [(1,i6 goal),(7,ref 1 0),(9,ow true 3 u10 1),(13,ref 4 0),(14,ow true 33 (m+1) 2),(62,ow true 5 (List.length L) 2),(63,i6 u5),(64,i6 (u12+1))] [u13,u14,u6,u16,cO 27 (aN V),cO (List.length L*2) (cd 6 L),ac on L u9 0,ac on L u9 1,ac on L u9 2,ac on L u9 3,ac on L u9 4,ac on L u9 5,ac on L u9 6,ac on L u9 7,ac on L u9 8,ac on L u9 9,ac on L u9 10,ac on L u9 11,ac on L u9 12,ac on L u9 13,ac on L u9 14,ac on L u9 15,ac on L u9 16,ac on L u9 17,ac on L u9 18,ac on L u9 19,ac on L u9 20,ac on L u9 21,ac on L u9 22,ac on L u9 23,dead,cO 2 (nth [i6 u3.rule,u4]),cO 2 (al (fun (j:Nat)=>nth u15 (j%2)) 0 2 (List.brecOn (motive:=fun (x:List AV)=>Nat->AV) [i6 u3.rule,u4] nth._f)),cO ((m+1)*2) (bB on NU L (aX on L i++[i]))] g))/\(decide (u11 > 0)=false->(-9223372036854775808<=u12+1/\u12+1<=9223372036854775807)/\Q AEx.normal (St.mk [(1,i6 goal),(7,ref 1 0),(9,ow true 3 u10 1),(13,ref 4 0),(14,ow true 30 m 2),(62,ow true 5 (List.length L) 2),(63,i6 u5),(64,i6 (u12+1))] [u13,u14,u6,u16,cO 27 (aN V),cO (List.length L*2) (cd 6 L),ac on L u9 0,ac on L u9 1,ac on L u9 2,ac on L u9 3,ac on L u9 4,ac on L u9 5,ac on L u9 6,ac on L u9 7,ac on L u9 8,ac on L u9 9,ac on L u9 10,ac on L u9 11,ac on L u9 12,ac on L u9 13,ac on L u9 14,ac on L u9 15,ac on L u9 16,ac on L u9 17,ac on L u9 18,ac on L u9 19,ac on L u9 20,ac on L u9 21,ac on L u9 22,ac on L u9 23,cO (m*2) (bB on NU L (aX on L i)),cO 2 (nth [i6 u3.rule,u4])] g))))/\(decide (u12<u5)=false->Q (AEx.exit 2) (St.mk u7 u1 g))) (cO (u10*1) fun a=>af NU a)) ([i6 0,fz Fz.nil 0 0 fun x x_1=>any])) (cO 1 fun x=>int u64 (↑on:Int))) (cO 2 (nth [i6 p.atoms,ad p.rules]))) ((↑i:Int))) ((↑(List.length (aY on u3.atoms)):Int))) (List.length (aL on p.rules.l))) (i+1)) ([i6 u3.rule,ow true (6+i) (List.length u3.atoms) 1])) ([(1,i6 goal),(7,ref 1 0),(9,ow true 3 (List.length (aL on p.rules.l)) 1),(13,ref 4 0),(14,ow true 30 m 2),(62,ow true 5 (List.length L) 2),(63,i6 u5),(64,i6 (↑i:Int)),(65,AV.bool (decide ((↑i:Int)<u5)))])) (cO 2 (nth [i6 p.atoms,fz Fz.auto 2 (List.length (az p on).rules.l) fun i=>bG (List.getD (az p on).rules.l i default)]))) ((↑(List.length L):Int))) (sl (6+i) 0 (List.length (aY on u3.atoms)) (List.length u3.atoms) false 1)) (List.getD L i default)) ([cO 2 (nth [i6 p.atoms,ad p.rules]),cO 1 fun x=>int u64 (↑on:Int),cO 2 (nth [i6 p.atoms,fz Fz.auto 2 (List.length (az p on).rules.l) fun i=>bG (List.getD (az p on).rules.l i default)]),cO (List.length (aL on p.rules.l)*1) fun a=>af NU a,cO 27 (aN V),cO (List.length L*2) (cd 6 L),ac on L i 0,ac on L i 1,ac on L i 2,ac on L i 3,ac on L i 4,ac on L i 5,ac on L i 6,ac on L i 7,ac on L i 8,ac on L i 9,ac on L i 10,ac on L i 11,ac on L i 12,ac on L i 13,ac on L i 14,ac on L i 15,ac on L i 16,ac on L i 17,ac on L i 18,ac on L i 19,ac on L i 20,ac on L i 21,ac on L i 22,ac on L i 23,cO (m*2) (bB on NU L (aX on L i)),cO 2 (nth [i6 (List.getD L i default).rule,ow true (6+i) (List.length (List.getD L i default).atoms) 1])])) ([cO 2 (nth [i6 p.atoms,ad p.rules]),cO 1 fun x=>int u64 (↑on:Int),cO 2 (nth [i6 p.atoms,fz Fz.auto 2 (List.length (az p on).rules.l) fun i=>bG (List.getD (az p on).rules.l i default)]),cO (List.length (aL on p.rules.l)*1) fun a=>af NU a,cO 27 (aN V),cO (List.length L*2) (cd 6 L),ac on L i 0,ac on L i 1,ac on L i 2,ac on L i 3,ac on L i 4,ac on L i 5,ac on L i 6,ac on L i 7,ac on L i 8,ac on L i 9,ac on L i 10,ac on L i 11,ac on L i 12,ac on L i 13,ac on L i 14,ac on L i 15,ac on L i 16,ac on L i 17,ac on L i 18,ac on L i 19,ac on L i 20,ac on L i 21,ac on L i 22,ac on L i 23,cO (m*2) (bB on NU L (aX on L i))])) ⟨fun c1=>have c1:(↑i:Int)<(↑(List.length L):Int):=(of_decide_eq_true c1);⟨omg,?_,omg,(fun c hc=>match c,hc with|0,_=>krf|1,_=>krf ),omg,fun hcc=>(nomatch (hge.symm.trans hcc)),fun _=>⟨omg,?_,omg,(fun c hc=>match c,hc with|0,_=>krf|1,_=>krf ),omg,fun c2=>have c2:(↑(List.length (aY on (List.getD L i default).atoms)):Int) > 0:=(of_decide_eq_true c2);⟨omg,omg,omg,omg,omg,omg,?_,omg,?_⟩,fun c2=>have c2:¬(↑(List.length (aY on (List.getD L i default).atoms)):Int) > 0:=(of_decide_eq_false c2);⟨omg,?_⟩⟩⟩,fun c1=>have c1:¬(↑i:Int)<(↑(List.length L):Int):=(of_decide_eq_false c1);?_⟩
      ·exact qW rfl rfl krf rfl (by show i*2+2<=L.length*2;omega) sT
      ·exact⟨rfl,sS R on L i _ _ _ _ _ _ _ omg hlt ⟨o2,omg⟩ o4 g⟩
      ·intro c hc
       rw[hm] at hc ⊢
       exact(sU (on:=on) (nums:=NU) (l:=L) (q:=aX on L i) (i:=i) (z:=fun j=>nth [.int .i64 0,.fz .nil 0 0 fun _ _=>.any] (j%2)) hc).trans (by rw[har];kernel_rfl)
      ·have hsc:=l0 (on:=on) (l:=L) (i:=i)
       rw[if_pos (show 0<(aY on (L.getD i default).atoms).length by omega)] at hsc
       have hm2:m+1=(aX on L (i+1)).length:=by rw[hsc,List.length_append,<-hm];rfl
       refine aO (i+1,m+1) (toS (g9 33) 34 (hob:=l4 hL24 omg hm2 (by rw[hsc];rfl))) ⟨by show i+1<=_;omega,hm2⟩ (by show L.length-(i+1)<L.length-i;omega)
      ·have hsc:=l0 (on:=on) (l:=L) (i:=i)
       rw[if_neg (show ¬0<(aY on (L.getD i default).atoms).length by omega)] at hsc
       have hm2:m=(aX on L (i+1)).length:=by rw[hsc,<-hm]
       refine aO (i+1,m) (toS (g9 30) 32 (hob:=l4 hL24 omg hm2 (by rw[hsc];rfl))) ⟨by show i+1<=_;omega,hm2⟩ (by show L.length-(i+1)<L.length-i;omega)
      ·exfalso;omega
    ·have hie:i=L.length:=by omega
     subst hie
     have hbb2:decide ((L.length:Int)<(L.length:Int))=false:=decide_eq_false omg
     refine vcR [[1,1,1,1,1,1,1,1,0,1,0,0,1,0,0]] (lkL [(16,[1,7,9,13,14,62,63,64,65])]) (fun _=>[]) (fun Q=>(fun (u1:St R.σ)=>(fun (u2:Int)=>(decide (u2<u2)=true->WpC Tryd.prog R 98 0 25 [1,1,1,1,1,1,1,1,0,1,0,0,1,0,0] Q [Kont.seq [1,1,1,1,1,1,1,1,0,1,0,0,1,1]] u1)/\(decide (u2<u2)=false->Q (AEx.exit 2) u1)) ((↑(List.length L):Int))) (St.mk [(1,i6 goal),(7,ref 1 0),(9,ow true 3 (List.length (aL on p.rules.l)) 1),(13,ref 4 0),(14,ow true 30 m 2),(62,ow true 5 (List.length L) 2),(63,i6 (↑(List.length L):Int)),(64,i6 (↑(List.length L):Int)),(65,AV.bool (decide ((↑(List.length L):Int)<(↑(List.length L):Int))))] [cO 2 (nth [i6 p.atoms,ad p.rules]),cO 1 fun x=>int u64 (↑on:Int),cO 2 (nth [i6 p.atoms,fz Fz.auto 2 (List.length (az p on).rules.l) fun i=>bG (List.getD (az p on).rules.l i default)]),cO (List.length (aL on p.rules.l)*1) fun a=>af NU a,cO 27 (aN V),cO (List.length L*2) (cd 6 L),ac on L (List.length L) 0,ac on L (List.length L) 1,ac on L (List.length L) 2,ac on L (List.length L) 3,ac on L (List.length L) 4,ac on L (List.length L) 5,ac on L (List.length L) 6,ac on L (List.length L) 7,ac on L (List.length L) 8,ac on L (List.length L) 9,ac on L (List.length L) 10,ac on L (List.length L) 11,ac on L (List.length L) 12,ac on L (List.length L) 13,ac on L (List.length L) 14,ac on L (List.length L) 15,ac on L (List.length L) 16,ac on L (List.length L) 17,ac on L (List.length L) 18,ac on L (List.length L) 19,ac on L (List.length L) 20,ac on L (List.length L) 21,ac on L (List.length L) 22,ac on L (List.length L) 23,cO (m*2) (bB on NU L (aX on L (List.length L)))] g)) ⟨fun hcc=>(nomatch (hbb2.symm.trans hcc)),fun _=>?_⟩
     all_goals first|(exfalso;rw[hbb2] at c1;cases c1)|skip
     refine⟨_,BE _,vcR [] (lkL [(24,[4,5,6])]) (lkL [(24,[(5,ROrc.kop (i6 (V (Int.toNat goal))))])]) (fun Q=>(fun (u1:List AObj)=>(fun (u2:Int)=>(0<=goal/\goal<(↑24:Int))/\OpOk Tryd.prog R (Oper.mk (some 96) (Op.load 43 (Operand.tmp 95)) 43 "table.go:325" #[Edge.mk 4 Ground.data] none) (evO [Row.mk (some 95) none (ref 4 (Int.toNat goal+2)) false (some []) [],Row.mk (some 94) none (ref 4 2) false (some []) [],Row.mk (some 93) none (ref 4 0) false (some []) [],Row.mk (some 92) none (i6 goal) false (some []) [],Row.mk (some 91) none (ref 4 0) false (some []) []] [(1,i6 goal),(7,ref 1 0),(9,ow true 3 (List.length (aL on p.rules.l)) 1),(13,ref 4 0),(14,ow true 30 m 2),(62,ow true 5 (List.length L) 2),(63,i6 u2),(64,i6 u2),(65,AV.bool (decide (u2<u2)))] []) u1 g (i6 (V (Int.toNat goal))) u1 g/\Q AEx.ret (St.mk [(4,i6 (V (Int.toNat goal))),(5,ow true 30 m 2),(6,i6 0)] u1 g)) ((↑(List.length L):Int))) ([cO 2 (nth [i6 p.atoms,ad p.rules]),cO 1 fun x=>int u64 (↑on:Int),cO 2 (nth [i6 p.atoms,fz Fz.auto 2 (List.length (az p on).rules.l) fun i=>bG (List.getD (az p on).rules.l i default)]),cO (List.length (aL on p.rules.l)*1) fun a=>af NU a,cO 27 (aN V),cO (List.length L*2) (cd 6 L),ac on L (List.length L) 0,ac on L (List.length L) 1,ac on L (List.length L) 2,ac on L (List.length L) 3,ac on L (List.length L) 4,ac on L (List.length L) 5,ac on L (List.length L) 6,ac on L (List.length L) 7,ac on L (List.length L) 8,ac on L (List.length L) 9,ac on L (List.length L) 10,ac on L (List.length L) 11,ac on L (List.length L) 12,ac on L (List.length L) 13,ac on L (List.length L) 14,ac on L (List.length L) 15,ac on L (List.length L) 16,ac on L (List.length L) 17,ac on L (List.length L) 18,ac on L (List.length L) 19,ac on L (List.length L) 20,ac on L (List.length L) 21,ac on L (List.length L) 22,ac on L (List.length L) 23,cO (m*2) (bB on NU L (aX on L (List.length L)))])) ⟨omg,?_,?_⟩⟩
     ·exact d6 rfl rfl krf rfl (by show _+1<=27;omega) (oH omg omg)
     ·show bC Tryd.prog R 0 _ _ _ _ .ret _
      refine ff (.tup 3 (nth [.int .i64 (V goal.toNat),.ow true 30 m 2,.int .i64 0])) _ rfl trivial (jS 0 [(0,.tup 3 (nth [.int .i64 (V goal.toNat),aB (ed on NU L),.int .i64 0]))] (Nat.le_refl _) (Nat.zero_le _) (fun i hi=>absurd hi (Nat.not_lt_zero i)) ⟨ay.tup (fun j hj=>match j,hj with|0,_=>Bz trivial|1,_=>?_|2,_=>Bz trivial),trivial⟩)
      exact zx hm hL24 rfl (fun k hk=>(kh omg).trans rfl)
def hpD (p:Prg)(v:Nat->Int)(es:List (Value × AV))(c:Nat->AV):List AObj:=[cO 27 (ae p v (.mp 1)),.map es,cO 1 c]
theorem oS (R:Res)(p:Prg)(v:Nat->Int)(es:List (Value × AV))(c:Nat->AV)(g:R.σ):DoesD Tryd.prog R 100 [.ref 2 0] (hpD p v es c) g (some (.ifc 145 (.agg 0 (nth [])))) (hpD p v es (nth [.bool false])) g:=by
 refine qE (nt:=bE Tryd.prog 100) (rs:=cE Tryd.prog 100) (k0:=3) 4 1 krf krf krf rfl krf dcd dcd dcd dcd dcd ?_
 refine vcR [[1,1,0,0,1,1,0],[1,1,1]] (lkL [(1,[0,1,6]),(2,[0,1,3]),(3,[0,1,13])]) (lkL [(2,[(6,ROrc.kop any)]),(5,[(0,ROrc.val (Orc.obj (nth [AV.bool false])))])]) (fun Q=>(fun (u1:List AObj)=>(fun (u2:AV)=>(true=true->OpOk Tryd.prog R (Oper.mk none (Op.store 145 (Operand.tmp 2) (Operand.tmp 10)) 0 "table.go:214" #[Edge.mk 5 Ground.data,Edge.mk 3 Ground.data,Edge.mk 0 Ground.phase,Edge.mk 1 Ground.phase,Edge.mk 2 Ground.phase,Edge.mk 3 Ground.phase,Edge.mk 4 (Ground.textOnly Departure.lateStores),Edge.mk 5 Ground.phase] none) (evO [Row.mk (some 2) none (ref 3 0) true (some [3]) [],Row.mk (some 11) none (AV.bool true) false (some []) [],Row.mk (some 10) none u2 false (some []) [],Row.mk (some 7) none (tup 2 (nth [u2,AV.bool true])) false (some []) [],Row.mk (some 9) none (tup 2 (nth [u2,AV.bool true])) false (some []) [],Row.mk (some 8) none (ifc 145 u2) false (some []) []] [(0,ref 2 0),(1,ifc 145 u2),(6,AV.bool true)] []) u1 g any u1 g/\(false=true->Wp Tryd.prog R (bE Tryd.prog 100) 3 Rd.no (aw Tryd.prog 100) [1,1,0,0,1,1,0] (aS Tryd.prog R (bE Tryd.prog 100) 3 Rd.no (aw Tryd.prog 100) Q [Kont.seq [1,1,0,1]]) (St.mk [(0,ref 2 0),(1,ifc 145 u2),(13,AV.bool false)] u1 g))/\(false=false->1<=1/\(∀(c_1:Nat),c_1<1->nth [AV.bool false] c_1=al c 0 1 (fun (x:Nat)=>AV.bool false) c_1)/\Q AEx.normal (St.mk [] [cO 27 (ae p v (AV.mp 1)),AObj.map es,cO 1 (nth [AV.bool false]),cO 0 (nth [])] g)))/\(true=false->Wp Tryd.prog R (bE Tryd.prog 100) 3 Rd.no (aw Tryd.prog 100) [1,1,1] (aS Tryd.prog R (bE Tryd.prog 100) 3 Rd.no (aw Tryd.prog 100) Q []) (St.mk [(0,ref 2 0),(1,ifc 145 u2),(6,AV.bool true)] [cO 27 (ae p v (AV.mp 1)),AObj.map es,cO 1 c] g))) (agg 0 (nth []))) ([cO 27 (ae p v (AV.mp 1)),AObj.map es,cO 1 c,cO 0 (nth [])])) ⟨fun _=>⟨?_,fun h=>(nomatch h),fun _=>⟨omg,(fun c hc=>match c,hc with|0,_=>krf ),?_⟩⟩,fun h=>(nomatch h)⟩
 ·exact wO rfl rfl rfl krf
 ·refine(aq (bS 3 _ _ rfl trivial omg trivial ⟨(fun _ _=>(by first|exact trivial|apply aW)),(fun j hj=>match j,hj with|0,_=>trivial ),trivial⟩ krf rfl rfl) (Bs _))
theorem sV (R:Res)(p:Prg)(v:Nat->Int)(es:List (Value × AV))(c:Nat->AV)(g:R.σ):DoesD Tryd.prog R 100 [.ref 2 0] (hpD p v es c) g none (hpD p v es c) g:=by
 refine qE (nt:=bE Tryd.prog 100) (rs:=cE Tryd.prog 100) (k0:=3) 4 1 krf krf krf rfl krf dcd dcd dcd dcd dcd ?_
 refine vcR [[1,1,0]] (lkL [(1,[0,1,6])]) (lkL [(1,[(1,ROrc.own (AV.bool false) (hpD p v es c) g)])]) (fun Q=>(fun (u1:List AObj)=>(fun (u2:St R.σ)=>OpOk Tryd.prog R (Oper.mk (some 6) (Op.binOp BinOp.neq 20 (Operand.tmp 5) (Operand.const Value.nilIface) 20) 4 "table.go:213" #[Edge.mk 0 Ground.data] none) (evO [Row.mk (some 5) none AV.nili false (some []) []] [(1,AV.nili),(0,ref 2 0)] []) u1 g (AV.bool false) u1 g/\(false=true->Wp Tryd.prog R (bE Tryd.prog 100) 3 Rd.no (aw Tryd.prog 100) [1,1,0] (aS Tryd.prog R (bE Tryd.prog 100) 3 Rd.no (aw Tryd.prog 100) Q []) u2)/\(false=false->Q AEx.normal u2)) (St.mk [(0,ref 2 0),(1,AV.nili),(6,AV.bool false)] u1 g)) ([cO 27 (ae p v (AV.mp 1)),AObj.map es,cO 1 c])) ⟨?_,fun h=>(nomatch h),fun _=>?_⟩
 ·exact vW (ms:=#[]) rfl rfl rfl krf
 ·refine(aq (aP _ _ rfl trivial rfl rfl rfl) (Bs _))
theorem zz (R:Res)(p:Prg)(v:Nat->Int)(es:List (Value × AV))(s:Step)(n:Nat)(c:Nat->AV)(hl:p.rules.l.length<1000000)(hr:∀r,r∈p.rules.l->aE r)(h:dc p v s=false)(g:R.σ):Does Tryd.prog R 141 [bo s,.ref 0 0] [cO 27 (ae p v (.mp 1)),.map es,cO n c] g (.pan (.ifc 145 (.agg 0 (nth [])))) [cO 27 (ae p v (.mp 1)),.map es,cO n c] g:=
 eI [0,1] 3 (fun R g=>rU R p v es s hl hr h g) rfl rfl rfl ⟨BC (fun j hj=>(cb (f:=ar [0,1] 3) rfl).symm),rfl,trivial⟩ (by exact⟨dcd,trivial⟩) ⟨bt (by exact⟨⟨trivial,trivial⟩,trivial⟩),Bs _,trivial⟩ (Bt (by rfl)) ⟨BC (fun j hj=>cb rfl),rfl,Bv _,trivial⟩
theorem zA (R:Res)(p:Prg)(v:Nat->Int)(es:List (Value × AV))(s:Step)(hl:p.rules.l.length<1000000)(hr:∀r,r∈p.rules.l->aE r)(h:dc p v s=false)(g:R.σ):Does Tryd.prog R 67 [.ref 0 0,.ifc 149 (bo s)] [cO 27 (ae p v (.mp 1)),.map es] g (.ret (.bool false)) [cO 27 (ae p v (.mp 1)),.map es] g:=by
 refine jJ (K:=100) (nt:=bE Tryd.prog 67) (rs:=cE Tryd.prog 67) (k0:=2) 5 [4] krf krf krf rfl krf krf dcd dcd ?_
 refine vcR [] (lkL [(0,[0,1,4])]) (fun _=>[]) (fun (Q:AEx->St R.σ->Prop)=>Q AEx.normal (St.mk [(0,ref 0 0),(1,ifc 149 (agg 2 (nth [i6 s.rule,fz s.atoms.2 1 (List.length s.atoms.l) fun (i x:Nat)=>af s.atoms.l i]))),(4,ref 2 0)] [cO 27 (ae p v (AV.mp 1)),AObj.map es,cO 1 fun (a:Nat)=>AV.bool false] g)) (?_)
 refine jK 3 [.ref 2 0] rfl rfl rfl ?_
 have hD:=fun (R:Res) (n:Nat) (c:Nat->AV) (g:R.σ)=>zz R p v es s n c hl hr h g
 refine vcR [] (lkL [(2,[4])]) (lkL [(2,[(2,ROrc.ipan (ifc 145 (agg 0 (nth []))) [cO 27 (ae p v (AV.mp 1)),AObj.map es,cO 1 fun (a:Nat)=>AV.bool false] g)])]) (fun Q=>(fun (u1:List AObj)=>(true=true/\true=true/\Does Tryd.prog R 141 [agg 2 (nth [i6 s.rule,fz s.atoms.2 1 (List.length s.atoms.l) fun i x=>af s.atoms.l i]),ref 0 0] u1 g (Oc.pan (ifc 145 (agg 0 (nth [])))) u1 g)/\Q (AEx.pan (ifc 145 (agg 0 (nth [])))) (St.mk [(4,ref 2 0)] u1 g)) ([cO 27 (ae p v (AV.mp 1)),AObj.map es,cO 1 fun a=>AV.bool false])) ⟨⟨krf,rfl,(hD _ _ _ _)⟩,?_⟩
 refine⟨_,_,oS R p v es _ g,?_⟩
 refine(aq (bS 2 (AV.bool false) ([0+(TyI.mk (TypeInfo.mk TypeDesc.bool "bool" 1 1 false 1 1 (some (Value.bool false)) true #[]).desc Tryd.prog.types[4].size Tryd.prog.types[4].bytes (ce (dl (Value.bool false))) (cI (TypeInfo.mk TypeDesc.bool "bool" 1 1 false 1 1 (some (Value.bool false)) true #[]).desc) (dM Tryd.prog 4)).size<=1]) krf (by exact⟨dcd,trivial⟩) omg trivial ⟨(fun _ _=>(by first|exact trivial|apply aW)),trivial⟩ krf rfl rfl) (Bs _))
theorem zB {s:Step}(h:s.rule ≠ -1):db s=.ifc 149 (bo s):=if_neg h
theorem zC (R:Res)(s:Step)(h:s.rule ≠ -1)(hp:List AObj)(g:R.σ):Does Tryd.prog R 68 [bo s] hp g (.ret (.ifc 149 (bo s))) hp g:=by
 rw[<-zB h]
 exact lI R s hp g
theorem zD (R:Res)(p:Prg)(v:Nat->Int)(es:List (Value × AV))(s:Step)(n0 n3:Nat)(c0 c3:Nat->AV)(hl:p.rules.l.length<1000000)(hr:∀r,r∈p.rules.l->aE r)(h:dc p v s=false)(g:R.σ):Does Tryd.prog R 67 [.ref 1 0,.ifc 149 (bo s)] [cO n0 c0,cO 27 (ae p v (.mp 2)),.map es,cO n3 c3] g (.ret (.bool false)) [cO n0 c0,cO 27 (ae p v (.mp 2)),.map es,cO n3 c3] g:=
 eI [1,2] 4 (fun R g=>zA R p v es s hl hr h g) rfl rfl rfl ⟨BC (fun j hj=>(cb (f:=ar [1,2] 4) rfl).symm),rfl,trivial⟩ (by exact⟨dcd,trivial⟩) ⟨Bs _,bt (by exact⟨⟨trivial,trivial⟩,trivial⟩),trivial⟩ (Bs _) ⟨Bv _,BC (fun j hj=>cb rfl),rfl,Bv _,trivial⟩
theorem zE (R:Res)[Tab LT R](p:Prg)(l:KL Step)(hb:aD p=true)(hll:0<l.l.length/\l.l.length<1000000)(h1:(l.l.getD 0 default).rule ≠ -1)(h2:dc p (fun _=>3) (l.l.getD 0 default)=false)(g:R.σ):Does Tryd.prog R 23 [av p,aB l] [] g (.ret (.tup 2 (nth [.int .i64 0,.int .i64 7]))) [] g:=by
 obtain⟨hl,hr,hp,hh,hx⟩:=ez hb
 have hs:eK p:=gZ hb
 have hp':1<=p.atoms/\p.atoms<=24:=hp
 refine spW (nt:=28) (rs:=[.tmp 4,.tmp 5]) (k0:=0) ?_
 have hc:((if aD p then(0:Int) else 2) != 0)=false:=by
  rw[hb]
  rfl
 refine vcR [[1,0,1,0]] (lkL [(0,[1,2]),(1,[1,2,11]),(3,[1,6]),(4,[6,14,15,16])]) (lkL [(1,[(1,ROrc.pcall (i6 (if aD p=true then 0 else 2)))]),(3,[(1,ROrc.call (ref 1 0) [cO 2 (nth [i6 p.atoms,ad p.rules]),cO 27 (ae p (fun (x:Nat)=>3) (AV.mp 2)),AObj.map (esF p.rules.l)] g)])]) (fun Q=>(fun (u1:AObj)=>(fun (u2:Int)=>(fun (u3:List AObj)=>2<=2/\(∀(hp:List AObj) (g:R.σ),true=true/\Does Tryd.prog R 16 [av p] hp g (ret (i6 u2)) hp g)/\((u2 != 0)=true->WpC Tryd.prog R 28 0 23 [1,0,1,0] Q [Kont.seq [1,1]] (St.mk [(1,aB l),(2,ref 0 0),(11,AV.bool (u2 != 0))] [u1] g))/\((u2 != 0)=false->2<=2/\(true=true/\Does Tryd.prog R 66 [av p] [u1] g (ret (ref 1 0)) u3 g)/\WpC Tryd.prog R 28 0 23 [1,1,1,0,1,0] Q [Kont.blk 0,Kont.seq [1,1,1,1]] (St.mk [(6,ref 1 0),(14,aB l),(15,i6 (↑(List.length l.l):Int)),(16,i6 0)] u3 g))) ([u1,cO 27 (ae p (fun (x:Nat)=>3) (AV.mp 2)),AObj.map (esF p.rules.l)])) (if aD p=true then 0 else 2)) (cO 2 (nth [i6 p.atoms,ad p.rules]))) ⟨omg,(fun _ _=>⟨rfl,(gP _ _ _ _ omg)⟩),fun hcc=>(nomatch (hc.symm.trans hcc)),fun _=>⟨omg,⟨rfl,(lX _ _ _ omg omg _)⟩,?_⟩⟩
 refine(a9 krf (fun (i:Nat)=>⟨[(6,ref 1 0),(14,aB l),(15,i6 (l.l.length:Int)),(16,.int .i64 i)],[cO 2 (nth [.int .i64 p.atoms,ad p.rules]),cO 27 (ae p (fun _=>3) (.mp 2)),.map (esF p.rules.l)],g⟩) (fun (i:Nat)=>(i=0)) (fun (i:Nat)=>0) 0 (aT ⟨Bs _,Bs _,Bs _,(Bt krf),trivial⟩ rfl rfl) ?_ (fun i hi=>?_))
 ·rfl
 ·subst hi
  have hD:=fun (R:Res) (n0 n3:Nat) (c0 c3:Nat->AV) (g:R.σ)=>zD R p (fun _=>3) (esF p.rules.l) (l.l.getD 0 default) n0 n3 c0 c3 hl hr h2 g
  refine vcR [[1,1,1,0,1,0,0,1,1,0,0,1,1,1]] (lkL [(5,[6,14,15,16,17]),(6,[6,7,8,14,15,16]),(7,[6,7,14,15,16,25]),(8,[4,5])]) (lkL [(6,[(5,ROrc.val (Orc.obj (nth [i6 (List.getD l.l 0 default).rule,fz (List.getD l.l 0 default).atoms.2 1 (List.length (List.getD l.l 0 default).atoms.l) fun (i x:Nat)=>af (List.getD l.l 0 default).atoms.l i])))]),(7,[(2,ROrc.pcall (ifc 149 (bo (List.getD l.l 0 default)))),(3,ROrc.kcall (AV.bool false))])]) (fun Q=>(fun (u1:List AV)=>(fun (u2:List AObj)=>(fun (u3:Int)=>(fun (u4:Int)=>(decide (u4<u3)=true->(0<=u4/\u4<u3)/\2<=2/\2<=2/\(∀(c:Nat),c<2->nth u1 c=al (nth [i6 0,fz Fz.nil 0 0 fun x x_1=>any]) 0 2 (List.brecOn (motive:=fun (x:List AV)=>Nat->AV) u1 nth._f) c)/\2<=2/\(∀(hp:List AObj) (g:R.σ),true=true/\Does Tryd.prog R 68 [agg 2 (nth u1)] hp g (ret (ifc 149 (agg 2 (nth u1)))) hp g)/\(true=true/\Does Tryd.prog R 67 [ref 1 0,ifc 149 (agg 2 (nth u1))] u2 g (ret (AV.bool false)) u2 g)/\(true=true->Q AEx.ret (St.mk [(4,i6 u4),(5,i6 7)] u2 g))/\(true=false->WpC Tryd.prog R 28 0 23 [1,1,1,0,1,0,0,1,1,0,0,1,1,1] Q [Kont.blk 1,Kont.seq [1,1,1,0,1,0,0,1,1,1]] (St.mk [(6,ref 1 0),(7,i6 u4),(14,aB l),(15,i6 u3),(16,i6 u4),(25,AV.bool true)] u2 g)))/\(decide (u4<u3)=false->Q (AEx.exit 0) (St.mk [(6,ref 1 0),(14,aB l),(15,i6 u3),(16,i6 u4),(17,AV.bool (decide (u4<u3)))] [cO 2 (nth [i6 p.atoms,ad p.rules]),cO 27 (ae p (fun (x:Nat)=>3) (AV.mp 2)),AObj.map (esF p.rules.l)] g))) ((↑0:Int))) ((↑(List.length l.l):Int))) ([cO 2 (nth [i6 p.atoms,ad p.rules]),cO 27 (ae p (fun (x:Nat)=>3) (AV.mp 2)),AObj.map (esF p.rules.l),cO 2 (nth u1)])) ([i6 (List.getD l.l 0 default).rule,fz (List.getD l.l 0 default).atoms.2 1 (List.length (List.getD l.l 0 default).atoms.l) fun i x=>af (List.getD l.l 0 default).atoms.l i])) ⟨fun c1=>have c1:(↑0:Int)<(↑(List.length l.l):Int):=(of_decide_eq_true c1);⟨omg,omg,omg,(fun c hc=>match c,hc with|0,_=>krf|1,_=>krf ),omg,(fun _ _=>⟨rfl,(zC _ _ omg _ _)⟩),⟨rfl,(hD _ _ _ _ _ _)⟩,fun _=>?_,fun h=>(nomatch h)⟩,fun c1=>have c1:¬(↑0:Int)<(↑(List.length l.l):Int):=(of_decide_eq_false c1);?_⟩
  ·refine⟨_,BE _,(aq (bw _ _ rfl trivial ⟨⟨trivial,trivial⟩,trivial⟩ rfl) (Bs _))⟩
  ·exfalso;omega
def zF (v:List Int)(l:Lit):Bool:=if l.neg then v.getD l.atom.toNat 0==1 else v.getD l.atom.toNat 0==2
def zG (v:List Int)(l:Lit):Bool:=if l.neg then v.getD l.atom.toNat 0==2 else v.getD l.atom.toNat 0==1
def zH (v:List Int)(r:Rule):Bool:= !r.body.l.any (fun l=> !zF v l)
def zI (n:Nat)(r:Rule):Prop:=r.body.l.length<1000000/\∀l,l∈r.body.l->0<=l.atom/\l.atom<n
def aI (l:List Bool):Nat->AV:=fun j=>.bool (l.getD j false)
theorem ro {k:Nat}(l:List Bool)(j:Nat):Below k (aI l j):=trivial
theorem rA {f:Nat->Nat}(h:True){l:List Bool}{j:Nat}:aK f (aI l j)=aI l j:=rfl
def zJ (v:List Int)(s:List Bool)(l:Lit):Bool:=zG v l||(!l.neg&&s.getD l.atom.toNat false)
def zK (v:List Int)(s:List Bool)(r:Rule):Bool:= !r.body.l.any (zJ v s)
def l5 (n:Nat)(r:Rule):Prop:=zI n r/\0<=r.head/\r.head<n
def sW (v:List Int)(s:List Bool)(r:Rule):Bool:=s.getD r.head.toNat false&&zK v s r
def zL (s:List Bool)(n:Nat):List Int:=((List.range n).filter fun k=>s.getD k false).map fun (k:Nat)=>(k:Int)
def zM (s:Step):Int:=if s.rule = -1 then 1 else 2
def zN (x:Int)(v:List Int)(l:List Int):List Int:=l.foldl (fun v a=>v.set a.toNat x) v
def zO (v:List Int)(s:Step):List Int:=zN (zM s) v s.atoms.l
def zP (n:Nat)(l:List Int):List Bool:=l.foldl (fun b a=>b.set a.toNat true) (List.replicate n false)
theorem zQ {b:List Bool}{a:Nat}(ha:a<b.length){c:Nat}:al (aI b) a 1 (fun _=>.bool true) c=aI (b.set a true) c:=by
 rw[dt]
 unfold aI
 rw[List.getD_eq_getElem?_getD,List.getD_eq_getElem?_getD,List.getElem?_set]
 by_cases h:a=c
 ·subst h
  rw[if_pos omg,if_pos rfl,if_pos ha]
  rfl
 ·rw[if_neg omg,if_neg h]
theorem zR {n j:Nat}:aI (zP n []) j=.bool false:=by
 show AV.bool _=_
 congr 1
 show(List.replicate n false).getD j false=false
 rw[List.getD_eq_getElem?_getD,List.getElem?_replicate]
 split <;> rfl
def fq (a b:List Bool)(n:Nat):Bool:=(List.range n).any fun i=>a.getD i false != b.getD i false
theorem zS {a b:List Bool}{n:Nat}:fq a b (n+1)=(fq a b n||(a.getD n false != b.getD n false)):=by
 unfold fq
 rw[List.range_succ,List.any_append]
 simp
theorem zT {a b:List Bool}{n i:Nat}(hi:i<n)(h:(a.getD i false != b.getD i false)=true):fq a b n=true:=
 List.any_eq_true.2 ⟨i,List.mem_range.2 hi,h⟩
def sX (v:List Int)(s:List Bool)(r:Rule):List Bool:=if sW v s r then s.set r.head.toNat false else s
def zU (v:List Int)(s:List Bool)(l:List Rule):List Bool:=l.foldl (sX v) s
def grCh (v:List Int):List Rule->List Bool->Bool
 |[],_=>false
 |r::l,s=>sW v s r||grCh v l (sX v s r)
def sY (v:List Int)(p:Prg):Nat->List Bool->List Bool
 |0,s=>s
 |n+1,s=>if grCh v p.rules.l s then sY v p n (zU v s p.rules.l) else s
def zV (v:List Int):List Bool:=v.map (fun x=>x==3)
def grR (v:List Int)(p:Prg):List Bool:=sY v p (v.length+1) (zV v)
def zW (v:List Int)(r:Rule):Bool:=v.getD r.head.toNat 0==3&&zH v r
def l6 (v:List Int)(p:Prg):Int:=aF (zW v) p.rules.l 0
def sZ (v:List Int)(p:Prg):List Int:=zL (grR v p) v.length
def oT (v:List Int)(p:Prg):Stp:=if 0<=l6 v p then⟨l6 v p,[(p.rules.l.getD (l6 v p).toNat default).head]⟩ else⟨-1,sZ v p⟩
def s0 (v:List Int)(p:Prg):Bool:=decide (0<=l6 v p)||decide (0<(sZ v p).length)
def ki (l:List Stp):Nat->AV:=fun c=>bif Nat.beq (c%2) 0 then .int .i64 (l.getD (c/2) default).rule else ah ⟨(l.getD (c/2) default).atoms,.auto⟩
theorem rq {k:Nat}(l:List Stp)(j:Nat):Below k (ki l j):=by
 unfold ki
 cases Nat.beq (j%2) 0 <;> trivial
theorem rC {f:Nat->Nat}(h:True){l:List Stp}{j:Nat}:aK f (ki l j)=ki l j:=by
 unfold ki
 cases Nat.beq (j%2) 0 with
 |true=>rfl
 |false=>rfl
def oU (p:Prg):Nat->List Int->List Stp->List Stp × List Int
 |0,v,l=>(l,v)
 |n+1,v,l=>if s0 v p then oU p n (zO v (a8 (oT v p))) (l++[oT v p]) else(l,v)
def zX (p:Prg)(n:Nat):List Stp × List Int:=oU p (n+1) (List.replicate n 3) []
def s4 (v:List Int):Nat:=v.count 3
structure DerOk (p:Prg)(n:Nat)(x:Nat × List Int × List Stp × Step × Bool):Prop where
 num:x.1=x.2.2.1.length
 len:x.2.1.length=n
 step:x.2.2.2.1=a8 (oT x.2.1 p)
 is:x.2.2.2.2=s0 x.2.1 p
 few:x.1+s4 x.2.1<=n
 der:∃f,s4 x.2.1<f/\oU p f x.2.1 x.2.2.1=zX p n
structure Agr (n:Nat)(v:List Int)(f:Nat->Int):Prop where
 len:v.length=n
 get:∀j,j<n->v.getD j 0=f j
 val:∀j,j<n->f j=1∨f j=2∨f j=3
def blk (f:Nat->Int)(m:Nat->Bool)(l:Lit):Bool:=bh f l==1||(!l.neg&&m l.atom.toNat)
theorem zY {f:Nat->Int}{m m':Nat->Bool}{l:Lit}(h:∀j,m j=true->m' j=true)(hb:blk f m l=true):blk f m' l=true:=by
 unfold blk at hb ⊢
 rw[Bool.or_eq_true,Bool.and_eq_true] at hb ⊢
 rcases hb with hb|⟨h1,h2⟩
 ·exact .inl hb
 ·exact .inr ⟨h1,h _ h2⟩
def kj (p:Prg)(f:Nat->Int)(m:Nat->Bool):Prop:=∀r,r∈p.rules.l->m r.head.toNat=true->r.body.l.any (blk f m)=true
theorem zZ {U:Type}{q q':U->Bool}{l:List U}(h:∀x,q x=true->q' x=true)(hq:l.any q=true):l.any q'=true:=by
 rw[List.any_eq_true] at hq ⊢
 obtain⟨x,h1,h2⟩:=hq
 exact⟨x,h1,h x h2⟩
section
variable {p:Prg}{n:Nat}{v:List Int}{f:Nat->Int}
theorem s5 {l:List Rule}{a:Int}{r:Rule}:r∈ofH l a↔r∈l/\r.head=a:=by
 unfold ofH
 rw[List.mem_filter,beq_iff_eq]
theorem oV (hh:∀r,r∈p.rules.l->0<=r.head){m:Nat->Bool}(hu:kj p f m):∀{l:List Nat} {s:Nat},s<2^24->(∀a,a∈l->a<24)->(∀j,m j=true->s.testBit j=true)->∀j,m j=true->(dg p f s l).testBit j=true
 |[],_,_,_,h=>h
 |a::l,s,hs,hl,h=>by
  show ∀j,m j=true->(dg p f (if (ofH p.rules.l (a:Int)).any (ba f s) then clr s a else s) l).testBit j=true
  have hl':∀b,b∈l->b<24:=fun b hb=>hl b (List.mem_cons_of_mem _ hb)
  have ha:=hl a List.mem_cons_self
  split
  ·rename_i hg
   refine oV hh hu (Nat.lt_of_le_of_lt (iR hs) hs) hl' (fun j hj=>?_)
   rw[ou hs ha,h j hj,Bool.true_and,decide_eq_true_eq]
   intro e
   subst e
   obtain⟨r,h1,h2⟩:=List.any_eq_true.1 hg
   obtain⟨h3,h4⟩:=s5.1 h1
   have h5:=zZ (l:=r.body.l) (fun l hb=>zY h hb) (hu r h3 (by rw[h4];simpa using hj))
   unfold ba at h2
   rw[Bool.not_eq_true'] at h2
   have h6:r.body.l.any (gT f s)=r.body.l.any (blk f s.testBit):=rfl
   rw[h6,h5] at h2
   cases h2
  ·exact oV hh hu hs hl' h
theorem s6 (hh:∀r,r∈p.rules.l->0<=r.head){m:Nat->Bool}(hu:kj p f m):∀{k s:Nat},s<2^24->(∀j,m j=true->s.testBit j=true)->∀j,m j=true->(ec p f k s).testBit j=true
 |0,_,_,h=>h
 |k+1,s,hs,h=>fun j hj=>by
  show(if bP p f s=s then s else ec p f k (bP p f s)).testBit j=true
  split
  ·exact h j hj
  ·exact s6 hh hu (Nat.lt_of_le_of_lt (fU hs) hs) (fun j hj=>oV hh hu hs (fun a ha=>iS ha) h j hj) j hj
theorem z1 (hp:bZ p)(hh:∀r,r∈p.rules.l->0<=r.head){m:Nat->Bool}(hu:kj p f m)(ho:∀j,m j=true->j<p.atoms.toNat/\f j=3){j:Nat}(hj:m j=true):(gre p f).testBit j=true:=by
 have:=hp.2
 refine s6 hh hu (iU omg) (fun j hj=>?_) j hj
 obtain⟨h1,h2⟩:=ho j hj
 rw[iT,decide_eq_true h1,decide_eq_true h2]
 rfl
theorem z2 (hp:bZ p)(hr:∀r,r∈p.rules.l->aE r):kj p f (fun j=>(gre p f).testBit j):=by
 intro r h hm
 have hg:=se f hp
 obtain⟨_,_,h3⟩:=gX f hp
 have hk:=hr r h
 have hm:(gre p f).testBit r.head.toNat=true:=hm
 unfold dH at hg
 rw[Bool.not_eq_true',List.any_eq_false] at hg
 have h1:=hg r.head.toNat (Tb.mem_memN.2 ⟨gp h3 hm,hm⟩)
 have h1:(ofH p.rules.l (r.head.toNat:Int)).any (ba f (gre p f))=false:=by simpa using h1
 rw[List.any_eq_false] at h1
 have h2:=h1 r (s5.2 ⟨h,by have:=hk.2.1;omega⟩)
 unfold ba at h2
 have h2:r.body.l.any (gT f (gre p f))=true:=by simpa using h2
 exact h2
end
end Go.Avm.Pack
