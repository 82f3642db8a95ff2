/- TableAny returns true, and leaves its arguments as they were. No conditions: every input that can be read as data. -/
import Derived.Test.YtbdagmhndndliaaDoorM5
namespace Go.Avm.Pack
open Go Go.Avm Go.Proofs
open Go.IntKind (i64 u64)
open Go.Avm.AV (int bool any fz fp sl ow ref fn ifc val agg tup)
open Go.Avm.AObj (cells dead)
open Go.Avm.Oc (ret)
set_option maxRecDepth 4000
section
variable {R:Res}
theorem zt [Tab LT R]{nt k0 f0:Nat}{b:Code}{p:List Nat}{Q:AEx->St R.σ->Prop}{s:St R.σ}(t:Nat)(psl:List Nat)(m:Nat)(hrl:iq t psl (sub b p)=true){fa fb:Nat->AV}(hf:lk s.fr t=.fn 105 0 fa 1 fb)(hfb:fb 0=.ref m 0)
  (S K:Nat) (hS:S<2^24) (H:List AObj) (h0:To R k0 s ⟨s.fr,H++[.cells false 1 (fun _=>.int .u64 S)],s.g⟩) (hl:H.length=m)
  (hlive:dB (H++[.cells false 1 (fun _=>.int .u64 S)])) (hBO:e6 m H) (hlen:1=psl.length) (hlt:bA psl nt=true) (ts:List Nat) (hBf:fX ts (fun t=>Below m (lk s.fr t)))
  (hround:∀k l,k<K->k<(ai S).length->Wp Tryd.prog R nt m (.inr l) b (p++[0]) (m7 Tryd.prog R nt m l b (p++[1]) none H s.g) ⟨cJ psl [.int .i64 (((ai S).getD k 0:Nat):Int)] (dO ts s.fr),H,s.g⟩)
  (hKl:K<(ai S).length) (hlast:∀l,Wp Tryd.prog R nt (m+1) (.inr l) b (p++[0]) (so Tryd.prog R nt l b (p++[1]) ((Tryd.prog.funcs[f0]?).isSome=true) (fun e s3=>Q e ⟨s.fr,s3.hp,s3.g⟩)) ⟨cJ psl [.int .i64 (((ai S).getD K 0:Nat):Int)] s.fr,H++[.dead],s.g⟩) :
  WpB Tryd.prog R nt k0 f0 b p Q s:=by
 obtain⟨ps,assign,body,hc,rfl⟩:∃ps assign body,sub b p=.rangeFunc (.tmp t) ps assign body/\ps.toList=psl:=by
  unfold iq at hrl
  split at hrl
  ·rename_i u ps assign body hs
   simp only[Bool.and_eq_true] at hrl
   have:=Nat.eq_of_beq_eq_true hrl.1
   subst this
   exact⟨ps,assign,body,hs,jv hrl.2⟩
  ·cases hrl
 have e0:sub b (p++[0])=assign:=by rw[cd,hc];exact cD assign
 have e1:sub b (p++[1])=body:=by rw[cd,hc];exact cD body
 refine vZ h0 ⟨fun C hC n a w hH=>?_⟩
 rw[hc]
 refine vU rfl (sn (s:=⟨s.fr,H++[.cells false 1 (fun _=>.int .u64 S)],s.g⟩) (K:=K) hf hfb hS rfl hl hlive hBO hlen hlt ts hBf (fun k hk hkN l=>?_) (fun _ l=>?_) (fun h=>absurd hKl omg) hC hH)
 ·have h1:=(hround k l hk hkN).h
  rw[e0] at h1
  rw[show(St.hp ⟨cJ ps.toList [.int .i64 (((ai S).getD k 0:Nat):Int)] (dO ts s.fr),H,s.g⟩).length=m from hl]
  refine hP h1 (fun e s' hq=>?_)
  cases e with
  |normal=>
   have h2:=(show Wp _ _ _ _ _ _ _ _ _ from hq).h
   rw[e1] at h2
   exact⟨rfl,h2⟩
  |exit id=>exact hq.elim
  |ret=>exact hq.elim
  |pan v=>exact hq.elim
 ·have h1:=(hlast l).h
  rw[e0] at h1
  refine hP h1 (fun e s' hq=>?_)
  cases e with
  |normal=>
   have h2:=(show Wp _ _ _ _ _ _ _ _ _ from hq).h
   rw[e1] at h2
   exact⟨rfl,h2⟩
  |exit id=>exact hq.elim
  |ret=>exact hq.elim
  |pan v=>exact hq.elim
end
theorem zu (R:Res)[Tab LT R](p:Prg)(v:Nat->Int)(es:List (Value × AV))(s:Step)(hl:p.rules.l.length<1000000)(hr:∀r,r∈p.rules.l->aI r)(hes:HeadsOk es p.rules.l)(hp:1<=p.atoms/\p.atoms<=24)(hsl:s.atoms.l.length<1000000)(hc:db p v s.atoms.l=true)(hn:dE p v (aJ s.atoms.l)=false)(g:R.σ):Does Tryd.prog R 139 [a9 s,.ref 0 0] [.cells false 27 (ad p v (.mp 1)),.map es] g (.pan (.ifc 145 (.agg 0 (nth [])))) [.cells false 27 (ad p v (.mp 1)),.map es] g:=by
 unfold db at hc
 rw[Bool.and_eq_true,decide_eq_true_eq,List.all_eq_true] at hc
 have h0:(s.atoms.l.length:Int) > 0:=by omega
 have hck:∀j,j<s.atoms.l.length->eG p v s.atoms.l j=true:=fun j hj=>hc.2 j (List.mem_range.2 hj)
 refine v7 (nt:=79) (k0:=2) krf krf rfl ?_
 refine jF krf ?_
 refine vcR [] (lkL [(0,[2,3])]) (fun _=>[]) (fun (Q:AEx->St R.σ->Prop)=>Q AEx.normal (St.mk [(2,ref 2 0),(3,ref 3 0)] [cells false 27 (ad p v (AV.mp 1)),AObj.map es,cells false 2 (nth [int i64 s.rule,ah s.atoms]),cells false 1 fun (a:Nat)=>ref 0 0] g)) (?_)
 show WpB _ _ _ _ _ _ _ _ _
 refine jF krf ?_
 refine vcR [] (lkL [(1,[2,3])]) (lkL [(1,[(5,ROrc.pcall (tup 0 (nth [])))])]) (fun Q=>2<=2/\(∀(hp:List AObj) (g:R.σ),true=true/\Does Tryd.prog R 140 [AV.bool (decide ((↑(List.length s.atoms.l):Int) > 0))] hp g (ret (tup 0 (nth []))) hp g)/\Q AEx.normal (St.mk [(2,ref 2 0),(3,ref 3 0)] [cells false 27 (ad p v (AV.mp 1)),AObj.map es,cells false 2 (nth [int i64 s.rule,ah s.atoms]),cells false 1 fun a=>ref 0 0] g)) ⟨omg,(fun _ _=>⟨rfl,(dQ _ _ (by simp at * <;> omega) _ _)⟩),?_⟩
 show WpB _ _ _ _ _ _ _ _ _
 refine jF krf ?_
 refine vcR [] (lkL [(2,[2,3,4])]) (fun _=>[]) (fun (Q:AEx->St R.σ->Prop)=>Q AEx.normal (St.mk [(2,ref 2 0),(3,ref 3 0),(4,ref 4 0)] [cells false 27 (ad p v (AV.mp 1)),AObj.map es,cells false 2 (nth [int i64 s.rule,ah s.atoms]),cells false 1 fun (a:Nat)=>ref 0 0,cells false 1 fun (a:Nat)=>int u64 0] g)) (?_)
 show WpB _ _ _ _ _ _ _ _ _
 refine jF krf ?_
 refine vcR [] (lkL [(3,[2,3,4,17,18,19])]) (fun _=>[]) (fun Q=>2<=2/\WpC Tryd.prog R 79 2 139 [1,1,1,0,1,0] Q [Kont.blk 0] (St.mk [(2,ref 2 0),(3,ref 3 0),(4,ref 4 0),(17,ah s.atoms),(18,int i64 (↑(List.length s.atoms.l):Int)),(19,int i64 0)] [cells false 27 (ad p v (AV.mp 1)),AObj.map es,cells false 2 (nth [int i64 s.rule,ah s.atoms]),cells false 1 fun a=>ref 0 0,cells false 1 fun a=>int u64 0] g)) ⟨omg,?_⟩
 refine(bl krf (fun (i:Nat)=>⟨[(2,ref 2 0),(3,ref 3 0),(4,ref 4 0),(17,ah s.atoms),(18,int i64 (s.atoms.l.length:Int)),(19,.int .i64 i)],[.cells false 27 (ad p v (.mp 1)),.map es,.cells false 2 (nth [.int .i64 s.rule,ah s.atoms]),.cells false 1 (fun _=>.ref 0 0),.cells false 1 (fun _=>.int .u64 (aJ (s.atoms.l.take i)))],g⟩) (fun (i:Nat)=>(i<=s.atoms.l.length/\aJ (s.atoms.l.take i)<2^24)) (fun (i:Nat)=>(s.atoms.l.length-i)) 0 (toL (h1:=⟨Af _,Af _,Af _,Af _,Af _,(Ag krf),trivial⟩)) ?_ (fun i hi=>?_))
 ·exact⟨Nat.zero_le _,(by decide:(0:Nat)<2^24)⟩
 ·obtain⟨h1,h2⟩:=hi
  rcases Nat.lt_or_ge i s.atoms.l.length with hlt|hge
  ·have hx:=nA hlt
   have hm:=hck i hlt
   have hm':(bif ep p s.atoms.l i then v (s.atoms.l.getD i 0).toNat==3 else false)=true:=hm
   have hA:=jN (lq hm)
   refine vcR [] (lkL [(4,[2,3,4,17,18,19,20]),(5,[2,3,4,5,6,17,18,19]),(6,[2,3,4,6,17,18,19]),(7,[2,3,4,17,18,19]),(8,[2,3,4,17,18,19])]) (lkL [(6,[(7,ROrc.pcall (AV.bool (decide (0<=List.getD s.atoms.l i 0/\List.getD s.atoms.l i 0<=p.atoms-1)))),(29,ROrc.kop (int i64 (v (Int.toNat (List.getD s.atoms.l i 0))))),(32,ROrc.pcall (tup 0 (nth [])))]),(7,[(2,ROrc.pcall (int u64 (↑(2^Int.toNat (List.getD s.atoms.l i 0)):Int))),(4,ROrc.val (Orc.obj (nth [int u64 (IntKind.wrap u64 (↑(BitVec.toNat (BitVec.ofInt 64 (↑(aJ (List.take i s.atoms.l)):Int)|||BitVec.ofInt 64 (↑(2^Int.toNat (List.getD s.atoms.l i 0)):Int))):Int))])))])]) (fun Q=>(fun (u1:Int)=>(fun (u2:Int)=>(fun (u3:Bool)=>(fun (u4:List AObj)=>(fun (u5:AV)=>(fun (u6:Int)=>(fun (u7:Int)=>(fun (u8:Bool)=>(fun (u9:Option (List Nat))=>(fun (u10:Option (Nat × Bool))=>(decide (u7<u6)=true->(0<=u7/\u7<u6)/\1<=1/\1<=1/\1<=27/\(-9223372036854775808<=p.atoms-1/\p.atoms-1<=9223372036854775807)/\(∀(hp:List AObj) (g:R.σ),true=true/\Does Tryd.prog R 58 [int i64 u1,int i64 0,int i64 (p.atoms-1)] hp g (ret (AV.bool u8)) hp g)/\((u8 && !u7==0)=true->2<=2)/\((u8 && !u7==0)=true -> -9223372036854775808<=u7-1/\u7-1<=9223372036854775807)/\((u8 && !u7==0)=true->0<=u7-1/\u7-1<u6)/\((u8 && !u7==0)=true->1<=1)/\(u3=true->1<=1)/\(u3=true->0<=u1/\u1<(↑24:Int))/\(u3=true->OpOk Tryd.prog R (Oper.mk (some 53) (Op.load 43 (Operand.tmp 52)) 43 "table.go:155" #[Edge.mk 28 Ground.data,Edge.mk 23 Ground.guard] (some (23,true))) (evO [Row.mk (some 52) (some (23,true)) (ref 0 (Int.toNat u1+2)) false u9 [],Row.mk (some 51) (some (23,true)) (ref 0 2) false u9 [],Row.mk (some 50) (some (23,true)) (ref 0 0) false u9 [],Row.mk (some 49) (some (23,true)) (int i64 u1) false u9 [],Row.mk (some 48) (some (23,true)) (ref 0 0) false u9 [3],Row.mk (some 47) none (AV.bool u3) false u9 [],Row.mk (some 46) none (AV.bool u3) false u9 [],Row.mk (some 45) (some (8,true)) (AV.bool (bif u7==0 then true else decide (u1 > u2))) false u9 [],Row.mk (some 44) u10 (AV.bool (decide (u1 > u2))) false u9 [],Row.mk (some 43) u10 (int i64 u2) false u9 [],Row.mk (some 42) u10 (fp 1 fun x=>int i64 u2) false u9 [],Row.mk (some 41) u10 (int i64 (u7-1)) false u9 [],Row.mk (some 40) u10 (int i64 u7) false u9 [],Row.mk (some 39) u10 (ah s.atoms) false u9 [2],Row.mk (some 38) u10 (ref 2 1) false u9 [],Row.mk (some 37) u10 (ref 2 0) false u9 [],Row.mk (some 36) u10 (int i64 u1) false u9 [],Row.mk (some 35) (some (8,true)) (AV.bool (u7==0)) false u9 [],Row.mk (some 34) (some (8,true)) (AV.bool (u7==0)) false u9 [],Row.mk (some 33) (some (8,true)) (int i64 u7) false u9 [],Row.mk (some 32) none (AV.bool u8) false u9 [],Row.mk (some 31) none (AV.bool u8) false u9 [],Row.mk (some 30) none (int i64 (p.atoms-1)) false u9 [],Row.mk (some 29) none (int i64 p.atoms) false u9 [0],Row.mk (some 28) none (ref 0 0) false u9 [],Row.mk (some 27) none (ref 0 0) false u9 [],Row.mk (some 26) none (ref 0 0) false u9 [],Row.mk (some 25) none (ref 0 0) false u9 [3],Row.mk (some 24) none (int i64 u1) false u9 []] [(2,ref 2 0),(3,ref 3 0),(4,ref 4 0),(5,int i64 u7),(6,int i64 u1),(17,ah s.atoms),(18,int i64 u6),(19,int i64 u7)] [(23,true)]) u4 g (int i64 (v (Int.toNat u1))) u4 g)/\(∀(hp:List AObj) (g:R.σ),true=true/\Does Tryd.prog R 140 [AV.bool (bif u3 then v (Int.toNat u1)==3 else false)] hp g (ret (tup 0 (nth []))) hp g)/\Flw Tryd.prog/\1<=1/\(∀(hp:List AObj) (g:R.σ),true=true/\Does Tryd.prog R 79 [int i64 u1] hp g (ret (int u64 (↑(2^Int.toNat u1):Int))) hp g)/\1<=1/\(∀(c:Nat),c<1->nth [u5] c=aj (fun (x:Nat)=>int u64 (↑(aJ (List.take i s.atoms.l)):Int)) 0 1 (fun (x:Nat)=>u5) c)/\(-9223372036854775808<=u7+1/\u7+1<=9223372036854775807)/\Q AEx.normal (St.mk [(2,ref 2 0),(3,ref 3 0),(4,ref 4 0),(17,ah s.atoms),(18,int i64 u6),(19,int i64 (u7+1))] [cells false 27 (ad p v (AV.mp 1)),AObj.map es,cells false 2 (nth [int i64 s.rule,ah s.atoms]),cells false 1 fun x=>ref 0 0,cells false 1 (nth [u5])] g))/\(decide (u7<u6)=false->Q (AEx.exit 0) (St.mk [(2,ref 2 0),(3,ref 3 0),(4,ref 4 0),(17,ah s.atoms),(18,int i64 u6),(19,int i64 u7),(20,AV.bool (decide (u7<u6)))] u4 g))) (some (11,false))) (some [])) (decide (0<=u1/\u1<=p.atoms-1))) ((↑i:Int))) ((↑(List.length s.atoms.l):Int))) (int u64 (IntKind.wrap u64 (↑(BitVec.toNat (BitVec.ofInt 64 (↑(aJ (List.take i s.atoms.l)):Int)|||BitVec.ofInt 64 (↑(2^Int.toNat u1):Int))):Int)))) ([cells false 27 (ad p v (AV.mp 1)),AObj.map es,cells false 2 (nth [int i64 s.rule,ah s.atoms]),cells false 1 fun x=>ref 0 0,cells false 1 fun x=>int u64 (↑(aJ (List.take i s.atoms.l)):Int)])) (bif decide (0<=u1/\u1<=p.atoms-1) then bif (↑i:Int)==0 then true else decide (u1 > u2) else false)) (List.getD s.atoms.l (Int.toNat ((↑i:Int)-1)) 0)) (List.getD s.atoms.l i 0)) ⟨fun c1=>have c1:(↑i:Int)<(↑(List.length s.atoms.l):Int):=(of_decide_eq_true c1);⟨omg,omg,omg,omg,omg,(fun _ _=>⟨rfl,(dD _ _ _ _ _ _)⟩),omg,omg,(by intro h;simp at h <;> omega),omg,omg,omg,?_,(fun _ _=>⟨rfl,(dQ _ _ (by assumption) _ _)⟩),krf,omg,(fun _ _=>⟨rfl,(dY _ _ omg _ _)⟩),omg,(fun c hc=>match c,hc with|0,_=>krf ),omg,?_⟩,fun c1=>have c1:¬(↑i:Int)<(↑(List.length s.atoms.l):Int):=(of_decide_eq_false c1);?_⟩
   ·intro _
    exact dC rfl rfl krf rfl (by show _+1<=27;omega) (dX omg omg)
   ·refine(aU (i+1) (toL (h1:=⟨Af _,Af _,Af _,Af _,Af _,(Ag krf),trivial⟩) (h2:=⟨Ah,rfl,Ah,Ah,⟨rfl,Nat.le_refl _,fun j hj=>match j,hj with|0,_=>(Ag ?_) ⟩,trivial⟩)) ?_ ?_)
    ·show AV.int .u64 _=AV.int .u64 _
     congr 1
     rw[hx]
     exact Tb.u64_or (bC h2) (bC (Nat.pow_lt_pow_right dcd omg))
    ·refine⟨omg,?_⟩
     rw[hx]
     exact Nat.or_lt_two_pow h2 (Nat.pow_lt_pow_right dcd omg)
    ·omega
   all_goals (exfalso;omega)
  ·have hi':i=s.atoms.l.length:=by omega
   subst hi'
   rw[List.take_length] at h2 ⊢
   obtain⟨S,hS⟩:∃S,aJ s.atoms.l=S:=⟨_,rfl⟩
   rw[hS] at h2 hn ⊢
   have hb:decide ((s.atoms.l.length:Int)<(s.atoms.l.length:Int))=false:=decide_eq_false omg
   refine vcR [[1,1,1,0,1,0,0,1,0,0]] (lkL [(4,[2,3,4,17,18,19,20])]) (fun _=>[]) (fun Q=>(fun (u1:Int)=>(fun (u2:St R.σ)=>(decide (u1<u1)=true->WpC Tryd.prog R 79 2 139 [1,1,1,0,1,0,0,1,0,0] Q [Kont.seq [1,1,1,0,1,0,0,1,1]] u2)/\(decide (u1<u1)=false->Q (AEx.exit 0) u2)) (St.mk [(2,ref 2 0),(3,ref 3 0),(4,ref 4 0),(17,ah s.atoms),(18,int i64 u1),(19,int i64 u1),(20,AV.bool (decide (u1<u1)))] [cells false 27 (ad p v (AV.mp 1)),AObj.map es,cells false 2 (nth [int i64 s.rule,ah s.atoms]),cells false 1 fun x=>ref 0 0,cells false 1 fun x=>int u64 (↑S:Int)] g)) ((↑(List.length s.atoms.l):Int))) ⟨fun hcc=>(nomatch (hb.symm.trans hcc)),fun _=>?_⟩
   refine⟨⟨[(2,.ref 2 0),(3,.ref 3 0),(4,.ref 4 0)],[.cells false 27 (ad p v (.mp 1)),.map es,.cells false 2 (nth [.int .i64 s.rule,ah s.atoms]),.cells false 1 (fun _=>.ref 0 0),.cells false 1 (fun _=>.int .u64 S)],g⟩,a8 (by exact⟨Af _,Af _,Af _,trivial⟩) rfl rfl,?_⟩
   show WpB _ _ _ _ _ _ _ _ _
   refine vY krf ?_
   refine jF krf ?_
   refine vcR [] (lkL [(9,[3,4,63])]) (lkL [(9,[(1,ROrc.call (fn 105 0 (nth []) 1 (nth [ref (List.length [cells false 27 (ad p v (AV.mp 1)),AObj.map es,cells false 2 (nth [int i64 s.rule,ah s.atoms]),cells false 1 fun (x:Nat)=>ref 0 0,cells false 1 fun (x:Nat)=>int u64 (↑S:Int)]) 0])) ([cells false 27 (ad p v (AV.mp 1)),AObj.map es,cells false 2 (nth [int i64 s.rule,ah s.atoms]),cells false 1 fun (x:Nat)=>ref 0 0,cells false 1 fun (x:Nat)=>int u64 (↑S:Int)]++[cells false 1 fun (x:Nat)=>int u64 (↑S:Int)]) g)])]) (fun Q=>(fun (u1:List AObj)=>1<=1/\(true=true/\Does Tryd.prog R 77 [int u64 (↑S:Int)] [cells false 27 (ad p v (AV.mp 1)),AObj.map es,cells false 2 (nth [int i64 s.rule,ah s.atoms]),cells false 1 fun x=>ref 0 0,cells false 1 fun x=>int u64 (↑S:Int)] g (ret (fn 105 0 (nth []) 1 (nth [ref 5 0]))) u1 g)/\Q AEx.normal (St.mk [(3,ref 3 0),(4,ref 4 0),(63,fn 105 0 (nth []) 1 (nth [ref 5 0]))] u1 g)) ([cells false 27 (ad p v (AV.mp 1)),AObj.map es,cells false 2 (nth [int i64 s.rule,ah s.atoms]),cells false 1 fun x=>ref 0 0,cells false 1 fun x=>int u64 (↑S:Int),cells false 1 fun x=>int u64 (↑S:Int)])) ⟨omg,⟨rfl,(cQ _ _ _ _)⟩,?_⟩
   show WpB _ _ _ _ _ _ _ _ _
   obtain⟨K,hK,hKs,hlo⟩:∃K,K<(ai S).length/\(ofH p.rules.l (((ai S).getD K 0:Nat):Int)).any (aZ v S)=true/\∀j,j<K->(ofH p.rules.l (((ai S).getD j 0:Nat):Int)).any (aZ v S)=false:=by
    have h:=gJ (fun (a:Nat)=>(ofH p.rules.l a).any (aZ v S)) 0 (ai S) 0 (by
     by_cases h:0<=aD (fun (a:Nat)=>(ofH p.rules.l a).any (aZ v S)) (ai S) 0
     ·exact h
     ·have hm:=(lA _ _ _ h).2
      unfold dE at hn
      rw[Bool.not_eq_false',List.any_eq_true] at hn
      obtain⟨x,hx,hx2⟩:=hn
      rw[hm x hx] at hx2
      cases hx2)
    obtain⟨K,h1,_,h3,h4⟩:=h
    exact⟨K,h1,h3,h4⟩
   have hin:∀k,k<(ai S).length->(ai S).getD k 0<24:=fun k hk=>iF (bR (ai S) 0 hk)
   obtain⟨l,hle⟩:∃l,(fun k=>(ai S).getD k 0)=l:=⟨_,rfl⟩
   refine vX krf ?_
   refine zt 63 [64] 5 krf rfl rfl S K h2 [.cells false 27 (ad p v (.mp 1)),.map es,.cells false 2 (nth [.int .i64 s.rule,ah s.atoms]),.cells false 1 (fun _=>.ref 0 0),.cells false 1 (fun _=>.int .u64 S)] (fx rfl rfl) rfl (by exact⟨omg,omg,omg,omg,omg,trivial⟩) (by exact⟨fun j _=>aV _ _ 3 _,trivial,fun j hj=>(match j with|0=>trivial|1=>trivial|_+2=>trivial),fun _ _=>show 0<5 by omega,fun _ _=>trivial,trivial⟩) rfl krf [3,4] (by exact⟨show 3<5 by omega,show 4<5 by omega,trivial⟩) (fun k l' hk hkN=>?_) hK (fun l'=>?_)
   ·refine vcR [] (lkL [(10,[3,4,7])]) (fun _=>[]) (fun (Q:AEx->St R.σ->Prop)=>Q AEx.normal (St.mk [(3,ref 3 0),(4,ref 4 0),(7,int i64 (↑(List.getD (ai S) k 0):Int))] [cells false 27 (ad p v (AV.mp 1)),AObj.map es,cells false 2 (nth [int i64 s.rule,ah s.atoms]),cells false 1 fun (x:Nat)=>ref 0 0,cells false 1 fun (x:Nat)=>int u64 (↑S:Int)] g)) (?_)
    show Wp _ _ _ 5 _ _ _ _ _
    obtain⟨a,ha⟩:∃a,(ai S).getD k 0=a:=⟨_,rfl⟩
    have ha24:a<24:=by rw[<-ha];exact hin k hkN
    have hm:(!(ofH p.rules.l a).any (aZ v S))=true:=by rw[<-ha,hlo k hk];rfl
    rw[ha]
    refine vcR [] (lkL [(11,[3,4])]) (lkL [(11,[(3,ROrc.kcall (AV.bool (List.any (ofH p.rules.l (↑a:Int)) (aZ v S)))),(5,ROrc.pcall (tup 0 (nth [])))])]) (fun Q=>(fun (u1:List AObj)=>1<=1/\1<=1/\(true=true/\Does Tryd.prog R 115 [ref 0 0,int i64 (↑a:Int),int u64 (↑S:Int)] u1 g (ret (AV.bool (List.any (ofH p.rules.l (↑a:Int)) (aZ v S)))) u1 g)/\(∀(hp:List AObj) (g:R.σ),true=true/\Does Tryd.prog R 140 [AV.bool !List.any (ofH p.rules.l (↑a:Int)) (aZ v S)] hp g (ret (tup 0 (nth []))) hp g)/\Q AEx.normal (St.mk [(3,ref 3 0),(4,ref 4 0)] u1 g)) ([cells false 27 (ad p v (AV.mp 1)),AObj.map es,cells false 2 (nth [int i64 s.rule,ah s.atoms]),cells false 1 fun x=>ref 0 0,cells false 1 fun x=>int u64 (↑S:Int)])) ⟨omg,omg,⟨rfl,(doT (T:=LT) [0,1] 5 (fun R _ g=>jM R (p) (v) (es) (S) (a) omg omg omg omg omg g))⟩,(fun _ _=>⟨rfl,(dQ _ _ omg _ _)⟩),?_⟩
    refine(eB rfl (a8 trivial rfl rfl))
   ·refine vcR [] (lkL [(10,[3,4,7])]) (fun _=>[]) (fun (Q:AEx->St R.σ->Prop)=>Q AEx.normal (St.mk [(3,ref 3 0),(4,ref 4 0),(7,int i64 (↑(List.getD (ai S) K 0):Int))] [cells false 27 (ad p v (AV.mp 1)),AObj.map es,cells false 2 (nth [int i64 s.rule,ah s.atoms]),cells false 1 fun (x:Nat)=>ref 0 0,cells false 1 fun (x:Nat)=>int u64 (↑S:Int),dead] g)) (?_)
    show Wp _ _ _ 6 _ _ _ _ _
    obtain⟨a,ha⟩:∃a,(ai S).getD K 0=a:=⟨_,rfl⟩
    have ha24:a<24:=by rw[<-ha];exact hin K hK
    have hm:(!(ofH p.rules.l a).any (aZ v S))=false:=by rw[<-ha,hKs];rfl
    rw[ha]
    refine vcR [] (lkL [(11,[3,4])]) (lkL [(11,[(3,ROrc.kcall (AV.bool (List.any (ofH p.rules.l (↑a:Int)) (aZ v S)))),(5,ROrc.cpan (ifc 145 (agg 0 (nth []))) [cells false 27 (ad p v (AV.mp 1)),AObj.map es,cells false 2 (nth [int i64 s.rule,ah s.atoms]),cells false 1 fun (x:Nat)=>ref 0 0,cells false 1 fun (x:Nat)=>int u64 (↑S:Int),dead] g)])]) (fun Q=>(fun (u1:List AObj)=>1<=1/\1<=1/\(true=true/\Does Tryd.prog R 115 [ref 0 0,int i64 (↑a:Int),int u64 (↑S:Int)] u1 g (ret (AV.bool (List.any (ofH p.rules.l (↑a:Int)) (aZ v S)))) u1 g)/\(true=true/\Does Tryd.prog R 140 [AV.bool !List.any (ofH p.rules.l (↑a:Int)) (aZ v S)] u1 g (Oc.pan (ifc 145 (agg 0 (nth [])))) u1 g)/\Q (AEx.pan (ifc 145 (agg 0 (nth [])))) (St.mk [(3,ref 3 0),(4,ref 4 0)] u1 g)) ([cells false 27 (ad p v (AV.mp 1)),AObj.map es,cells false 2 (nth [int i64 s.rule,ah s.atoms]),cells false 1 fun x=>ref 0 0,cells false 1 fun x=>int u64 (↑S:Int),dead])) ⟨omg,omg,⟨rfl,(doT (T:=LT) [0,1] 6 (fun R _ g=>jM R (p) (v) (es) (S) (a) omg omg omg omg omg g))⟩,⟨rfl,(iC _ _ omg _ _)⟩,?_⟩
    refine⟨krf,?_⟩
    exact ej (s':=⟨[(0,.ifc 145 (.agg 0 (nth [])))],[.cells false 27 (ad p v (.mp 1)),.map es],g⟩) [0,1] 6 rfl rfl rfl rfl rfl ⟨Af _,trivial⟩ ⟨Ap (fun j hj=>(b9 (f:=ar [0,1] 6) rfl).symm),rfl,trivial⟩
theorem zv (R:Res)[Tab LT R](p:Prg)(v:Nat->Int)(es:List (Value × AV))(s:Step)(hl:p.rules.l.length<1000000)(hr:∀r,r∈p.rules.l->aI r)(hes:HeadsOk es p.rules.l)(hp:1<=p.atoms/\p.atoms<=24)(hsl:s.atoms.l.length<1000000)(g:R.σ):Does Tryd.prog R 139 [a9 s,.ref 0 0] [.cells false 27 (ad p v (.mp 1)),.map es] g (ra (dF p v s)) [.cells false 27 (ad p (match dF p v s with|true=>bW v (aJ s.atoms.l)|false=>v) (.mp 1)),.map es] g:=by
 by_cases h:db p v s.atoms.l=true/\dE p v (aJ s.atoms.l)=false
 ·have hu:dF p v s=false:=by unfold dF;rw[h.1,h.2];rfl
  rw[hu]
  exact zu R p v es s hl hr hes hp hsl h.1 h.2 g
 ·exact wR R p v es s hl hr hes hp hsl (fun hc=>by
   cases hn:dE p v (aJ s.atoms.l) with
   |true=>rfl
   |false=>exact absurd ⟨hc,hn⟩ h) g
def okS (p:Prg)(v:Nat->Int)(s:Step):Bool:=if s.rule = -1 then dF p v s else cR p v s
def newS (p:Prg)(v:Nat->Int)(s:Step):Nat->Int:=if s.rule = -1 then bW v (aJ s.atoms.l) else eF p v s
theorem lW {R:Res}{f:FuncId}{p:Prg}{v v':Nat->Int}{es:List (Value × AV)}{s:Step}{x:Oc}(hx:∀F,im F x=x)(h:∀(R:Res) [Tab LT R] (g:R.σ),Does Tryd.prog R f [a9 s,.ref 0 0] [.cells false 27 (ad p v (.mp 1)),.map es] g x [.cells false 27 (ad p v' (.mp 1)),.map es] g)[Tab LT R](n:Nat)(c:Nat->AV)(g:R.σ) :
  Does Tryd.prog R f [a9 s,.ref 0 0] [.cells false 27 (ad p v (.mp 1)),.map es,.cells false n c] g x [.cells false 27 (ad p v' (.mp 1)),.map es,.cells false n c] g:=
 el (T:=LT) inferInstance [0,1] 3 (fun R _ g=>h R g) rfl rfl rfl ⟨Ap (fun j hj=>(b9 (f:=ar [0,1] 3) rfl).symm),rfl,trivial⟩ (by exact⟨dcd,trivial⟩) ⟨bc (by exact⟨⟨trivial,trivial⟩,trivial⟩),Af _,trivial⟩ (by rw[hx];cases x <;> exact Af _) ⟨Ap (fun j hj=>b9 rfl),rfl,Ai _,trivial⟩
theorem zw (R:Res)[Tab LT R](p:Prg)(v v':Nat->Int)(es:List (Value × AV))(s:Step)(h:∀(R:Res) [Tab LT R] (g:R.σ),Does Tryd.prog R 141 [a9 s,.ref 0 0] [.cells false 27 (ad p v (.mp 1)),.map es] g (.ret (.tup 0 (nth []))) [.cells false 27 (ad p v' (.mp 1)),.map es] g)(g:R.σ):Does Tryd.prog R 67 [.ref 0 0,.ifc 149 (a9 s)] [.cells false 27 (ad p v (.mp 1)),.map es] g (.ret (.bool true)) [.cells false 27 (ad p v' (.mp 1)),.map es] g:=by
 refine jw (K:=100) (nt:=bz Tryd.prog 67) (rs:=cE Tryd.prog 67) (k0:=2) 5 [4] krf krf krf rfl krf krf dcd dcd ?_
 refine vcR [] (lkL [(0,[0,1,4])]) (fun _=>[]) (fun (Q:AEx->St R.σ->Prop)=>Q AEx.normal (St.mk [(0,ref 0 0),(1,ifc 149 (a9 s)),(4,ref 2 0)] [cells false 27 (ad p v (AV.mp 1)),AObj.map es,cells false 1 fun (a:Nat)=>AV.bool false] g)) (?_)
 refine jx 3 [.ref 2 0] rfl rfl rfl ?_
 have hD:=fun (R:Res) [Tab LT R] (n:Nat) (c:Nat->AV) (g:R.σ)=>lW (R:=R) (fun _=>rfl) h n c g
 refine vcR [] (lkL [(2,[4]),(3,[4])]) (lkL [(2,[(2,ROrc.inv (tup 0 (nth [])) [cells false 27 (ad p v' (AV.mp 1)),AObj.map es,cells false 1 fun (a:Nat)=>AV.bool false] g)]),(3,[(0,ROrc.val (Orc.obj (nth [AV.bool true])))])]) (fun Q=>(fun (u1:List AObj)=>(true=true/\true=true/\Does Tryd.prog R 141 [a9 s,ref 0 0] (cells false 27 (ad p v (AV.mp 1))::u1) g (ret (tup 0 (nth []))) (cells false 27 (ad p v' (AV.mp 1))::u1) g)/\1<=1/\(∀(c:Nat),c<1->nth [AV.bool true] c=aj (fun (a:Nat)=>AV.bool false) 0 1 (fun (x:Nat)=>AV.bool true) c)/\Q AEx.ret (St.mk [(4,ref 2 0)] [cells false 27 (ad p v' (AV.mp 1)),AObj.map es,cells false 1 (nth [AV.bool true])] g)) ([AObj.map es,cells false 1 fun a=>AV.bool false])) ⟨⟨krf,rfl,(hD _ _ _ _)⟩,omg,(fun c hc=>match c,hc with|0,_=>krf ),?_⟩
 refine⟨_,_,sc R p v' es _ g,?_⟩
 refine(av (bZ 2 (AV.bool true) ([0+(TyI.mk (TypeInfo.mk TypeDesc.bool "bool" 1 1 false 1 1 (some (Value.bool false)) true #[]).desc Tryd.prog.types[4].size Tryd.prog.types[4].bytes (cg (dg (Value.bool false))) (cF (TypeInfo.mk TypeDesc.bool "bool" 1 1 false 1 1 (some (Value.bool false)) true #[]).desc) (dJ Tryd.prog 4)).size<=1]) krf (by exact⟨dcd,trivial⟩) omg trivial ⟨(fun _ _=>(by first|exact trivial|apply aV)),trivial⟩ krf rfl rfl) (Af _))
theorem zx (R:Res)[Tab LT R](p:Prg)(v:Nat->Int)(es:List (Value × AV))(s:Step)(h:∀(R:Res) [Tab LT R] (g:R.σ),Does Tryd.prog R 141 [a9 s,.ref 0 0] [.cells false 27 (ad p v (.mp 1)),.map es] g (.pan (.ifc 145 (.agg 0 (nth [])))) [.cells false 27 (ad p v (.mp 1)),.map es] g)(g:R.σ):Does Tryd.prog R 67 [.ref 0 0,.ifc 149 (a9 s)] [.cells false 27 (ad p v (.mp 1)),.map es] g (.ret (.bool false)) [.cells false 27 (ad p v (.mp 1)),.map es] g:=by
 refine jw (K:=100) (nt:=bz Tryd.prog 67) (rs:=cE Tryd.prog 67) (k0:=2) 5 [4] krf krf krf rfl krf krf dcd dcd ?_
 refine vcR [] (lkL [(0,[0,1,4])]) (fun _=>[]) (fun (Q:AEx->St R.σ->Prop)=>Q AEx.normal (St.mk [(0,ref 0 0),(1,ifc 149 (a9 s)),(4,ref 2 0)] [cells false 27 (ad p v (AV.mp 1)),AObj.map es,cells false 1 fun (a:Nat)=>AV.bool false] g)) (?_)
 refine jx 3 [.ref 2 0] rfl rfl rfl ?_
 have hD:=fun (R:Res) [Tab LT R] (n:Nat) (c:Nat->AV) (g:R.σ)=>lW (R:=R) (fun _=>rfl) h n c g
 refine vcR [] (lkL [(2,[4])]) (lkL [(2,[(2,ROrc.ipan (ifc 145 (agg 0 (nth []))) [cells false 27 (ad p v (AV.mp 1)),AObj.map es,cells false 1 fun (a:Nat)=>AV.bool false] g)])]) (fun Q=>(fun (u1:List AObj)=>(true=true/\true=true/\Does Tryd.prog R 141 [a9 s,ref 0 0] u1 g (Oc.pan (ifc 145 (agg 0 (nth [])))) u1 g)/\Q (AEx.pan (ifc 145 (agg 0 (nth [])))) (St.mk [(4,ref 2 0)] u1 g)) ([cells false 27 (ad p v (AV.mp 1)),AObj.map es,cells false 1 fun a=>AV.bool false])) ⟨⟨krf,rfl,(hD _ _ _ _)⟩,?_⟩
 refine⟨_,_,oh R p v es _ g,?_⟩
 refine(av (bZ 2 (AV.bool false) ([0+(TyI.mk (TypeInfo.mk TypeDesc.bool "bool" 1 1 false 1 1 (some (Value.bool false)) true #[]).desc Tryd.prog.types[4].size Tryd.prog.types[4].bytes (cg (dg (Value.bool false))) (cF (TypeInfo.mk TypeDesc.bool "bool" 1 1 false 1 1 (some (Value.bool false)) true #[]).desc) (dJ Tryd.prog 4)).size<=1]) krf (by exact⟨dcd,trivial⟩) omg trivial ⟨(fun _ _=>(by first|exact trivial|apply aV)),trivial⟩ krf rfl rfl) (Af _))
theorem zy (R:Res)[Tab LT R](p:Prg)(v v':Nat->Int)(es:List (Value × AV))(s:Step)(h:∀(R:Res) [Tab LT R] (g:R.σ),Does Tryd.prog R 139 [a9 s,.ref 0 0] [.cells false 27 (ad p v (.mp 1)),.map es] g (.ret (.tup 0 (nth []))) [.cells false 27 (ad p v' (.mp 1)),.map es] g)(g:R.σ):Does Tryd.prog R 67 [.ref 0 0,.ifc 148 (a9 s)] [.cells false 27 (ad p v (.mp 1)),.map es] g (.ret (.bool true)) [.cells false 27 (ad p v' (.mp 1)),.map es] g:=by
 refine jw (K:=100) (nt:=bz Tryd.prog 67) (rs:=cE Tryd.prog 67) (k0:=2) 5 [4] krf krf krf rfl krf krf dcd dcd ?_
 refine vcR [] (lkL [(0,[0,1,4])]) (fun _=>[]) (fun (Q:AEx->St R.σ->Prop)=>Q AEx.normal (St.mk [(0,ref 0 0),(1,ifc 148 (a9 s)),(4,ref 2 0)] [cells false 27 (ad p v (AV.mp 1)),AObj.map es,cells false 1 fun (a:Nat)=>AV.bool false] g)) (?_)
 refine jx 3 [.ref 2 0] rfl rfl rfl ?_
 have hD:=fun (R:Res) [Tab LT R] (n:Nat) (c:Nat->AV) (g:R.σ)=>lW (R:=R) (fun _=>rfl) h n c g
 refine vcR [] (lkL [(2,[4]),(3,[4])]) (lkL [(2,[(2,ROrc.inv (tup 0 (nth [])) [cells false 27 (ad p v' (AV.mp 1)),AObj.map es,cells false 1 fun (a:Nat)=>AV.bool false] g)]),(3,[(0,ROrc.val (Orc.obj (nth [AV.bool true])))])]) (fun Q=>(fun (u1:List AObj)=>(true=true/\true=true/\Does Tryd.prog R 139 [a9 s,ref 0 0] (cells false 27 (ad p v (AV.mp 1))::u1) g (ret (tup 0 (nth []))) (cells false 27 (ad p v' (AV.mp 1))::u1) g)/\1<=1/\(∀(c:Nat),c<1->nth [AV.bool true] c=aj (fun (a:Nat)=>AV.bool false) 0 1 (fun (x:Nat)=>AV.bool true) c)/\Q AEx.ret (St.mk [(4,ref 2 0)] [cells false 27 (ad p v' (AV.mp 1)),AObj.map es,cells false 1 (nth [AV.bool true])] g)) ([AObj.map es,cells false 1 fun a=>AV.bool false])) ⟨⟨krf,rfl,(hD _ _ _ _)⟩,omg,(fun c hc=>match c,hc with|0,_=>krf ),?_⟩
 refine⟨_,_,sc R p v' es _ g,?_⟩
 refine(av (bZ 2 (AV.bool true) ([0+(TyI.mk (TypeInfo.mk TypeDesc.bool "bool" 1 1 false 1 1 (some (Value.bool false)) true #[]).desc Tryd.prog.types[4].size Tryd.prog.types[4].bytes (cg (dg (Value.bool false))) (cF (TypeInfo.mk TypeDesc.bool "bool" 1 1 false 1 1 (some (Value.bool false)) true #[]).desc) (dJ Tryd.prog 4)).size<=1]) krf (by exact⟨dcd,trivial⟩) omg trivial ⟨(fun _ _=>(by first|exact trivial|apply aV)),trivial⟩ krf rfl rfl) (Af _))
theorem zz (R:Res)[Tab LT R](p:Prg)(v:Nat->Int)(es:List (Value × AV))(s:Step)(h:∀(R:Res) [Tab LT R] (g:R.σ),Does Tryd.prog R 139 [a9 s,.ref 0 0] [.cells false 27 (ad p v (.mp 1)),.map es] g (.pan (.ifc 145 (.agg 0 (nth [])))) [.cells false 27 (ad p v (.mp 1)),.map es] g)(g:R.σ):Does Tryd.prog R 67 [.ref 0 0,.ifc 148 (a9 s)] [.cells false 27 (ad p v (.mp 1)),.map es] g (.ret (.bool false)) [.cells false 27 (ad p v (.mp 1)),.map es] g:=by
 refine jw (K:=100) (nt:=bz Tryd.prog 67) (rs:=cE Tryd.prog 67) (k0:=2) 5 [4] krf krf krf rfl krf krf dcd dcd ?_
 refine vcR [] (lkL [(0,[0,1,4])]) (fun _=>[]) (fun (Q:AEx->St R.σ->Prop)=>Q AEx.normal (St.mk [(0,ref 0 0),(1,ifc 148 (a9 s)),(4,ref 2 0)] [cells false 27 (ad p v (AV.mp 1)),AObj.map es,cells false 1 fun (a:Nat)=>AV.bool false] g)) (?_)
 refine jx 3 [.ref 2 0] rfl rfl rfl ?_
 have hD:=fun (R:Res) [Tab LT R] (n:Nat) (c:Nat->AV) (g:R.σ)=>lW (R:=R) (fun _=>rfl) h n c g
 refine vcR [] (lkL [(2,[4])]) (lkL [(2,[(2,ROrc.ipan (ifc 145 (agg 0 (nth []))) [cells false 27 (ad p v (AV.mp 1)),AObj.map es,cells false 1 fun (a:Nat)=>AV.bool false] g)])]) (fun Q=>(fun (u1:List AObj)=>(true=true/\true=true/\Does Tryd.prog R 139 [a9 s,ref 0 0] u1 g (Oc.pan (ifc 145 (agg 0 (nth [])))) u1 g)/\Q (AEx.pan (ifc 145 (agg 0 (nth [])))) (St.mk [(4,ref 2 0)] u1 g)) ([cells false 27 (ad p v (AV.mp 1)),AObj.map es,cells false 1 fun a=>AV.bool false])) ⟨⟨krf,rfl,(hD _ _ _ _)⟩,?_⟩
 refine⟨_,_,oh R p v es _ g,?_⟩
 refine(av (bZ 2 (AV.bool false) ([0+(TyI.mk (TypeInfo.mk TypeDesc.bool "bool" 1 1 false 1 1 (some (Value.bool false)) true #[]).desc Tryd.prog.types[4].size Tryd.prog.types[4].bytes (cg (dg (Value.bool false))) (cF (TypeInfo.mk TypeDesc.bool "bool" 1 1 false 1 1 (some (Value.bool false)) true #[]).desc) (dJ Tryd.prog 4)).size<=1]) krf (by exact⟨dcd,trivial⟩) omg trivial ⟨(fun _ _=>(by first|exact trivial|apply aV)),trivial⟩ krf rfl rfl) (Af _))
theorem zA (R:Res)[Tab LT R](p:Prg)(v:Nat->Int)(es:List (Value × AV))(s:Step)(hl:p.rules.l.length<1000000)(hr:∀r,r∈p.rules.l->aI r)(hes:HeadsOk es p.rules.l)(hp:1<=p.atoms/\p.atoms<=24)(hsl:s.atoms.l.length<1000000)(g:R.σ):Does Tryd.prog R 67 [.ref 0 0,cZ s] [.cells false 27 (ad p v (.mp 1)),.map es] g (.ret (.bool (okS p v s))) [.cells false 27 (ad p (if okS p v s then newS p v s else v) (.mp 1)),.map es] g:=by
 unfold okS newS cZ
 by_cases h:s.rule = -1
 ·rw[if_pos h,if_pos h,if_pos h]
  have hU:=fun (R:Res) [Tab LT R] (g:R.σ)=>zv R p v es s hl hr hes hp hsl g
  cases hu:dF p v s with
  |true=>
   simp only[hu] at hU
   exact zy R p v _ es s hU g
  |false=>
   simp only[hu] at hU
   exact zz R p v es s hU g
 ·rw[if_neg h,if_neg h,if_neg h]
  cases hu:cR p v s with
  |true=>exact zw R p v _ es s (fun R _ g=>wQ R p v es s hl hr hu g) g
  |false=>exact zx R p v es s (fun R _ g=>rb R p v es s hl hr hu g) g
end Go.Avm.Pack
namespace Go.Avm.Pack
open Go Go.Avm Go.Proofs
open Go.IntKind (i64 u64)
open Go.Avm.AV (int bool any fz fp sl ow ref fn ifc val agg tup)
open Go.Avm.AObj (cells dead)
open Go.Avm.Oc (ret)
set_option maxRecDepth 4000
def cK (p:Prg):List Step->(Nat->Int)->Nat->Int
 |[],_,_=> -1
 |s::l,v,i=>if okS p v s then cK p l (newS p v s) (i+1) else i
def cb (p:Prg)(v:Nat->Int)(l:List Step):Nat->Int:=l.foldl (newS p) v
theorem zB {p:Prg}{v:Nat->Int}{l:List Step}{i:Nat}(h:i<l.length):cb p v (l.take (i+1))=newS p (cb p v (l.take i)) (l.getD i default):=lG (newS p) v l default h
theorem zC {f:Nat->Nat}{p:Prg}{v:Nat->Int}{j k m:Nat}(h:f k=m):aG f (ad p v (.mp k) j)=ad p v (.mp m) j:=by
 subst h
 unfold ad
 split
 ·rfl
 ·split
  ·rfl
  ·split <;> rfl
theorem sE (R:Res)[Tab LT R](p:Prg)(v:Nat->Int)(es:List (Value × AV))(s:Step)(n0 n3:Nat)(c0 c3:Nat->AV)(hl:p.rules.l.length<1000000)(hr:∀r,r∈p.rules.l->aI r)(hes:HeadsOk es p.rules.l)(hp:1<=p.atoms/\p.atoms<=24)(hsl:s.atoms.l.length<1000000)(g:R.σ):Does Tryd.prog R 67 [.ref 1 0,cZ s] [.cells false n0 c0,.cells false 27 (ad p v (.mp 2)),.map es,.cells false n3 c3] g (.ret (.bool (okS p v s))) [.cells false n0 c0,.cells false 27 (ad p (if okS p v s then newS p v s else v) (.mp 2)),.map es,.cells false n3 c3] g:=
 el (T:=LT) inferInstance [1,2] 4 (fun R _ g=>zA R p v es s hl hr hes hp hsl g) rfl rfl rfl ⟨Ap (fun j hj=>(b9 (f:=ar [1,2] 4) rfl).symm),rfl,trivial⟩ (by exact⟨dcd,trivial⟩) ⟨Af _,bc (by unfold cZ;split <;> exact⟨⟨trivial,trivial⟩,trivial⟩),trivial⟩ (Af _) ⟨Ai _,Ap (fun j hj=>b9 rfl),rfl,Ai _,trivial⟩
theorem zD (R:Res)[Tab LT R](p:Prg)(l:KL Step)(hb:aH p=true)(hll:l.l.length<1000000)(hal:∀i,(l.l.getD i default).atoms.l.length<1000000)(g:R.σ):Does Tryd.prog R 23 [au p,aC l] [] g (.ret (.tup 2 (nth [.int .i64 (if 0<=cK p l.l (fun _=>3) 0 then cK p l.l (fun _=>3) 0 else 0),.int .i64 (if 0<=cK p l.l (fun _=>3) 0 then 7 else 0)]))) [] g:=by
 obtain⟨hl,hr,hp,hh,hx⟩:=fI hb
 have hs:eC p:=gK hb
 have hp':1<=p.atoms/\p.atoms<=24:=hp
 refine spW (nt:=28) (rs:=[.tmp 4,.tmp 5]) (k0:=0) ?_
 have hc:((if aH p then(0:Int) else 2) != 0)=false:=by
  rw[hb]
  rfl
 refine vcR [[1,0,1,0]] (lkL [(0,[1,2]),(1,[1,2,11]),(3,[1,6]),(4,[6,14,15,16])]) (lkL [(1,[(1,ROrc.pcall (int i64 (if aH p=true then 0 else 2)))]),(3,[(1,ROrc.call (ref 1 0) [cells false 2 (nth [int i64 p.atoms,ae p.rules]),cells false 27 (ad p (fun (x:Nat)=>3) (AV.mp 2)),AObj.map (esF p.rules.l)] g)])]) (fun Q=>(fun (u1:AObj)=>(fun (u2:Int)=>(fun (u3:List AObj)=>2<=2/\(∀(hp:List AObj) (g:R.σ),true=true/\Does Tryd.prog R 16 [au p] hp g (ret (int i64 u2)) hp g)/\((u2 != 0)=true->WpC Tryd.prog R 28 0 23 [1,0,1,0] Q [Kont.seq [1,1]] (St.mk [(1,aC l),(2,ref 0 0),(11,AV.bool (u2 != 0))] [u1] g))/\((u2 != 0)=false->2<=2/\(true=true/\Does Tryd.prog R 66 [au p] [u1] g (ret (ref 1 0)) u3 g)/\WpC Tryd.prog R 28 0 23 [1,1,1,0,1,0] Q [Kont.blk 0,Kont.seq [1,1,1,1]] (St.mk [(6,ref 1 0),(14,aC l),(15,int i64 (↑(List.length l.l):Int)),(16,int i64 0)] u3 g))) ([u1,cells false 27 (ad p (fun (x:Nat)=>3) (AV.mp 2)),AObj.map (esF p.rules.l)])) (if aH p=true then 0 else 2)) (cells false 2 (nth [int i64 p.atoms,ae p.rules]))) ⟨omg,(fun _ _=>⟨rfl,(gC _ _ _ _ omg)⟩),fun hcc=>(nomatch (hc.symm.trans hcc)),fun _=>⟨omg,⟨rfl,(lF _ _ _ omg omg _)⟩,?_⟩⟩
 refine(bl krf (fun (i:Nat)=>⟨[(6,ref 1 0),(14,aC l),(15,int i64 (l.l.length:Int)),(16,.int .i64 i)],[.cells false 2 (nth [.int .i64 p.atoms,ae p.rules]),.cells false 27 (ad p (cb p (fun _=>3) (l.l.take i)) (.mp 2)),.map (esF p.rules.l)],g⟩) (fun (i:Nat)=>(i<=l.l.length/\cK p l.l (fun _=>3) 0=cK p (l.l.drop i) (cb p (fun _=>3) (l.l.take i)) i)) (fun (i:Nat)=>(l.l.length-i)) 0 (toL (h1:=⟨Af _,Af _,Af _,(Ag krf),trivial⟩)) ?_ (fun i hi=>?_))
 ·exact⟨Nat.zero_le _,rfl⟩
 ·obtain⟨h1,h2⟩:=hi
  rcases Nat.lt_or_ge i l.l.length with hlt|hge
  ·rw[fC l.l default hlt] at h2
   have hrt:=zB (p:=p) (v:=fun _=>3) hlt
   obtain⟨v,hv⟩:∃v,cb p (fun _=>3) (l.l.take i)=v:=⟨_,rfl⟩
   rw[hv] at hrt h2 ⊢
   have h2:cK p l.l (fun _=>3) 0=if okS p v (l.l.getD i default) then cK p (l.l.drop (i+1)) (newS p v (l.l.getD i default)) (i+1) else i:=h2
   have hD:=fun (R:Res) [Tab LT R] (n0 n3:Nat) (c0 c3:Nat->AV) (g:R.σ)=>sE R p v (esF p.rules.l) (l.l.getD i default) n0 n3 c0 c3 hl hr (nG hr) hp (hal i) g
   cases hk:okS p v (l.l.getD i default) with
   |true=>
    simp only[hk,if_true] at hD
    rw[if_pos hk] at h2
    refine vcR [[1,1,1,0,1,0,0,1,1,0,0,1,1,0]] (lkL [(5,[6,14,15,16,17]),(6,[6,7,8,14,15,16]),(7,[6,7,14,15,16,25]),(9,[6,14,15,16])]) (lkL [(6,[(5,ROrc.val (Orc.obj (nth [int i64 (List.getD l.l i default).rule,fz (List.getD l.l i default).atoms.2 1 (List.length (List.getD l.l i default).atoms.l) fun (i_1 x:Nat)=>af (List.getD l.l i default).atoms.l i_1])))]),(7,[(2,ROrc.pcall (cZ (List.getD l.l i default))),(3,ROrc.call (AV.bool true) [cells false 2 (nth [int i64 p.atoms,ae p.rules]),cells false 27 (ad p (newS p v (List.getD l.l i default)) (AV.mp 2)),AObj.map (esF p.rules.l),cells false 2 (nth [int i64 (List.getD l.l i default).rule,fz (List.getD l.l i default).atoms.2 1 (List.length (List.getD l.l i default).atoms.l) fun (i_1 x:Nat)=>af (List.getD l.l i default).atoms.l i_1])] g)])]) (fun Q=>(fun (u1:List AV)=>(fun (u2:List AObj)=>(fun (u3:Int)=>(fun (u4:Int)=>(fun (u5:AObj)=>(decide (u4<u3)=true->(0<=u4/\u4<u3)/\2<=2/\2<=2/\(∀(c:Nat),c<2->nth u1 c=aj (nth [int i64 0,fz Fz.nil 0 0 fun x x_1=>any]) 0 2 (List.brecOn (motive:=fun (x:List AV)=>Nat->AV) u1 nth._f) c)/\2<=2/\(∀(hp:List AObj) (g:R.σ),true=true/\Does Tryd.prog R 68 [agg 2 (nth u1)] hp g (ret (cZ (List.getD l.l i default))) hp g)/\(true=true/\Does Tryd.prog R 67 [ref 1 0,evO [Row.mk (some 23) none (cZ (List.getD l.l i default)) false (some []) [],Row.mk (some 22) none (agg 2 (nth u1)) false (some []) [3],Row.mk (some 21) none (ref 1 0) false (some []) []] [(6,ref 1 0),(7,int i64 u4),(8,ref 3 0),(14,aC l),(15,int i64 u3),(16,int i64 u4)] [] (Operand.tmp 23)] [u5,cells false 27 (ad p v (AV.mp 2)),AObj.map (esF p.rules.l),cells false 2 (nth u1)] g (ret (AV.bool true)) u2 g)/\(false=true->WpC Tryd.prog R 28 0 23 [1,1,1,0,1,0,0,1,1,0,0,1,1,0] Q [Kont.blk 1,Kont.seq [1,1,1,0,1,0,0,1,1,1]] (St.mk [(6,ref 1 0),(7,int i64 u4),(14,aC l),(15,int i64 u3),(16,int i64 u4),(25,AV.bool false)] u2 g))/\(false=false->(-9223372036854775808<=u4+1/\u4+1<=9223372036854775807)/\Q AEx.normal (St.mk [(6,ref 1 0),(14,aC l),(15,int i64 u3),(16,int i64 (u4+1))] u2 g)))/\(decide (u4<u3)=false->Q (AEx.exit 0) (St.mk [(6,ref 1 0),(14,aC l),(15,int i64 u3),(16,int i64 u4),(17,AV.bool (decide (u4<u3)))] [u5,cells false 27 (ad p v (AV.mp 2)),AObj.map (esF p.rules.l)] g))) (cells false 2 (nth [int i64 p.atoms,ae p.rules]))) ((↑i:Int))) ((↑(List.length l.l):Int))) ([cells false 2 (nth [int i64 p.atoms,ae p.rules]),cells false 27 (ad p (newS p v (List.getD l.l i default)) (AV.mp 2)),AObj.map (esF p.rules.l),cells false 2 (nth u1)])) ([int i64 (List.getD l.l i default).rule,fz (List.getD l.l i default).atoms.2 1 (List.length (List.getD l.l i default).atoms.l) fun i_1 x=>af (List.getD l.l i default).atoms.l i_1])) ⟨fun c1=>have c1:(↑i:Int)<(↑(List.length l.l):Int):=(of_decide_eq_true c1);⟨omg,omg,omg,(fun c hc=>match c,hc with|0,_=>krf|1,_=>krf ),omg,(fun _ _=>⟨rfl,(ln _ _ _ _)⟩),⟨rfl,(hD _ _ _ _ _ _)⟩,fun h=>(nomatch h),fun _=>⟨omg,?_⟩⟩,fun c1=>have c1:¬(↑i:Int)<(↑(List.length l.l):Int):=(of_decide_eq_false c1);?_⟩
    ·refine(aU (i+1) (toS [0,1,2] 4 (hob:=⟨⟨rfl,Nat.le_refl _,fun j hj=>match j,hj with|0,_=>(Af _)|1,_=>(Af _) ⟩,(Ap (fun j hj=>?_)),rfl,trivial⟩)) ?_ ?_)
     ·rw[hrt]
      exact(zC (f:=ar [0,1,2] 4) (k:=2) rfl).symm
     ·refine⟨omg,?_⟩
      rw[hrt]
      exact h2
     ·omega
    ·exfalso;omega
   |false=>
    simp only[hk,if_false] at hD
    rw[if_neg (by rw[hk];decide)] at h2
    rw[h2,if_pos omg,if_pos omg]
    refine vcR [[1,1,1,0,1,0,0,1,1,0,0,1,1,1]] (lkL [(5,[6,14,15,16,17]),(6,[6,7,8,14,15,16]),(7,[6,7,14,15,16,25]),(8,[4,5])]) (lkL [(6,[(5,ROrc.val (Orc.obj (nth [int i64 (List.getD l.l i default).rule,fz (List.getD l.l i default).atoms.2 1 (List.length (List.getD l.l i default).atoms.l) fun (i_1 x:Nat)=>af (List.getD l.l i default).atoms.l i_1])))]),(7,[(2,ROrc.pcall (cZ (List.getD l.l i default))),(3,ROrc.call (AV.bool false) [cells false 2 (nth [int i64 p.atoms,ae p.rules]),cells false 27 (ad p (if false=true then newS p v (List.getD l.l i default) else v) (AV.mp 2)),AObj.map (esF p.rules.l),cells false 2 (nth [int i64 (List.getD l.l i default).rule,fz (List.getD l.l i default).atoms.2 1 (List.length (List.getD l.l i default).atoms.l) fun (i_1 x:Nat)=>af (List.getD l.l i default).atoms.l i_1])] g)])]) (fun Q=>(fun (u1:List AV)=>(fun (u2:List AObj)=>(fun (u3:Int)=>(fun (u4:Int)=>(fun (u5:AObj)=>(decide (u4<u3)=true->(0<=u4/\u4<u3)/\2<=2/\2<=2/\(∀(c:Nat),c<2->nth u1 c=aj (nth [int i64 0,fz Fz.nil 0 0 fun x x_1=>any]) 0 2 (List.brecOn (motive:=fun (x:List AV)=>Nat->AV) u1 nth._f) c)/\2<=2/\(∀(hp:List AObj) (g:R.σ),true=true/\Does Tryd.prog R 68 [agg 2 (nth u1)] hp g (ret (cZ (List.getD l.l i default))) hp g)/\(true=true/\Does Tryd.prog R 67 [ref 1 0,evO [Row.mk (some 23) none (cZ (List.getD l.l i default)) false (some []) [],Row.mk (some 22) none (agg 2 (nth u1)) false (some []) [3],Row.mk (some 21) none (ref 1 0) false (some []) []] [(6,ref 1 0),(7,int i64 u4),(8,ref 3 0),(14,aC l),(15,int i64 u3),(16,int i64 u4)] [] (Operand.tmp 23)] [u5,cells false 27 (ad p v (AV.mp 2)),AObj.map (esF p.rules.l),cells false 2 (nth u1)] g (ret (AV.bool false)) u2 g)/\(true=true->Q AEx.ret (St.mk [(4,int i64 u4),(5,int i64 7)] u2 g))/\(true=false->WpC Tryd.prog R 28 0 23 [1,1,1,0,1,0,0,1,1,0,0,1,1,1] Q [Kont.blk 1,Kont.seq [1,1,1,0,1,0,0,1,1,1]] (St.mk [(6,ref 1 0),(7,int i64 u4),(14,aC l),(15,int i64 u3),(16,int i64 u4),(25,AV.bool true)] u2 g)))/\(decide (u4<u3)=false->Q (AEx.exit 0) (St.mk [(6,ref 1 0),(14,aC l),(15,int i64 u3),(16,int i64 u4),(17,AV.bool (decide (u4<u3)))] [u5,cells false 27 (ad p v (AV.mp 2)),AObj.map (esF p.rules.l)] g))) (cells false 2 (nth [int i64 p.atoms,ae p.rules]))) ((↑i:Int))) ((↑(List.length l.l):Int))) ([cells false 2 (nth [int i64 p.atoms,ae p.rules]),cells false 27 (ad p (if false=true then newS p v (List.getD l.l i default) else v) (AV.mp 2)),AObj.map (esF p.rules.l),cells false 2 (nth u1)])) ([int i64 (List.getD l.l i default).rule,fz (List.getD l.l i default).atoms.2 1 (List.length (List.getD l.l i default).atoms.l) fun i_1 x=>af (List.getD l.l i default).atoms.l i_1])) ⟨fun c1=>have c1:(↑i:Int)<(↑(List.length l.l):Int):=(of_decide_eq_true c1);⟨omg,omg,omg,(fun c hc=>match c,hc with|0,_=>krf|1,_=>krf ),omg,(fun _ _=>⟨rfl,(ln _ _ _ _)⟩),⟨rfl,(hD _ _ _ _ _ _)⟩,fun _=>?_,fun h=>(nomatch h)⟩,fun c1=>have c1:¬(↑i:Int)<(↑(List.length l.l):Int):=(of_decide_eq_false c1);?_⟩
    ·refine⟨_,Ar _,(av (bG _ _ rfl trivial ⟨⟨trivial,trivial⟩,trivial⟩ rfl) (Af _))⟩
    ·exfalso;omega
  ·have hie:i=l.l.length:=by omega
   subst hie
   rw[List.drop_length] at h2
   have h2:cK p l.l (fun _=>3) 0 = -1:=h2
   rw[h2,if_neg omg,if_neg omg]
   refine vcR [] (lkL [(5,[6,14,15,16,17]),(6,[6,7,8,14,15,16]),(7,[6,7,14,15,16,25]),(8,[4,5]),(9,[6,14,15,16])]) (lkL [(6,[(5,ROrc.val (Orc.obj (nth [int i64 (List.getD l.l (List.length l.l) default).rule,fz (List.getD l.l (List.length l.l) default).atoms.2 1 (List.length (List.getD l.l (List.length l.l) default).atoms.l) fun (i x:Nat)=>af (List.getD l.l (List.length l.l) default).atoms.l i])))]),(7,[(2,ROrc.pcall (cZ (List.getD l.l (List.length l.l) default))),(3,ROrc.call (AV.bool (okS p (cb p (fun (x:Nat)=>3) (List.take (List.length l.l) l.l)) (List.getD l.l (List.length l.l) default))) [cells false 2 (nth [int i64 p.atoms,ae p.rules]),cells false 27 (ad p (if okS p (cb p (fun (x:Nat)=>3) (List.take (List.length l.l) l.l)) (List.getD l.l (List.length l.l) default)=true then newS p (cb p (fun (x:Nat)=>3) (List.take (List.length l.l) l.l)) (List.getD l.l (List.length l.l) default) else cb p (fun (x:Nat)=>3) (List.take (List.length l.l) l.l)) (AV.mp 2)),AObj.map (esF p.rules.l),cells false 2 (nth [int i64 (List.getD l.l (List.length l.l) default).rule,fz (List.getD l.l (List.length l.l) default).atoms.2 1 (List.length (List.getD l.l (List.length l.l) default).atoms.l) fun (i x:Nat)=>af (List.getD l.l (List.length l.l) default).atoms.l i])] g)])]) (fun Q=>(fun (u1:List AV)=>(fun (u2:List AObj)=>(fun (u3:Int)=>(fun (u4:Bool)=>(fun (u5:AObj)=>(fun (u6:AObj)=>(decide (u3<u3)=true->(0<=u3/\u3<u3)/\2<=2/\2<=2/\(∀(c:Nat),c<2->nth u1 c=aj (nth [int i64 0,fz Fz.nil 0 0 fun x x_1=>any]) 0 2 (List.brecOn (motive:=fun (x:List AV)=>Nat->AV) u1 nth._f) c)/\2<=2/\(∀(hp:List AObj) (g:R.σ),true=true/\Does Tryd.prog R 68 [agg 2 (nth u1)] hp g (ret (cZ (List.getD l.l (List.length l.l) default))) hp g)/\(true=true/\Does Tryd.prog R 67 [ref 1 0,evO [Row.mk (some 23) none (cZ (List.getD l.l (List.length l.l) default)) false (some []) [],Row.mk (some 22) none (agg 2 (nth u1)) false (some []) [3],Row.mk (some 21) none (ref 1 0) false (some []) []] [(6,ref 1 0),(7,int i64 u3),(8,ref 3 0),(14,aC l),(15,int i64 u3),(16,int i64 u3)] [] (Operand.tmp 23)] [u6,u5,AObj.map (esF p.rules.l),cells false 2 (nth u1)] g (ret (AV.bool u4)) u2 g)/\((!u4)=true->Q AEx.ret (St.mk [(4,int i64 u3),(5,int i64 7)] u2 g))/\((!u4)=false->(-9223372036854775808<=u3+1/\u3+1<=9223372036854775807)/\Q AEx.normal (St.mk [(6,ref 1 0),(14,aC l),(15,int i64 u3),(16,int i64 (u3+1))] u2 g)))/\(decide (u3<u3)=false->Q (AEx.exit 0) (St.mk [(6,ref 1 0),(14,aC l),(15,int i64 u3),(16,int i64 u3),(17,AV.bool (decide (u3<u3)))] [u6,u5,AObj.map (esF p.rules.l)] g))) (cells false 2 (nth [int i64 p.atoms,ae p.rules]))) (cells false 27 (ad p (cb p (fun (x:Nat)=>3) (List.take (List.length l.l) l.l)) (AV.mp 2)))) (okS p (cb p (fun (x:Nat)=>3) (List.take (List.length l.l) l.l)) (List.getD l.l (List.length l.l) default))) ((↑(List.length l.l):Int))) ([cells false 2 (nth [int i64 p.atoms,ae p.rules]),cells false 27 (ad p (if okS p (cb p (fun (x:Nat)=>3) (List.take (List.length l.l) l.l)) (List.getD l.l (List.length l.l) default)=true then newS p (cb p (fun (x:Nat)=>3) (List.take (List.length l.l) l.l)) (List.getD l.l (List.length l.l) default) else cb p (fun (x:Nat)=>3) (List.take (List.length l.l) l.l)) (AV.mp 2)),AObj.map (esF p.rules.l),cells false 2 (nth u1)])) ([int i64 (List.getD l.l (List.length l.l) default).rule,fz (List.getD l.l (List.length l.l) default).atoms.2 1 (List.length (List.getD l.l (List.length l.l) default).atoms.l) fun i x=>af (List.getD l.l (List.length l.l) default).atoms.l i])) ⟨fun c1=>have c1:(↑(List.length l.l):Int)<(↑(List.length l.l):Int):=(of_decide_eq_true c1);⟨omg,omg,omg,(fun c hc=>match c,hc with|0,_=>krf|1,_=>krf ),omg,(fun _ _=>⟨rfl,(ln _ _ _ _)⟩),⟨rfl,(sE _ _ _ _ _ _ _ _ _ omg omg (by simp at * <;> omega) omg (by simp at * <;> omega) _)⟩,fun c2=>have c2:okS p (cb p (fun (x:Nat)=>3) (List.take (List.length l.l) l.l)) (List.getD l.l (List.length l.l) default)=false:=((Bool.not_eq_true' _).mp c2);?_,fun c2=>have c2:okS p (cb p (fun (x:Nat)=>3) (List.take (List.length l.l) l.l)) (List.getD l.l (List.length l.l) default)=true:=((Bool.not_eq_false' _).mp c2);⟨omg,?_⟩⟩,fun c1=>have c1:¬(↑(List.length l.l):Int)<(↑(List.length l.l):Int):=(of_decide_eq_false c1);?_⟩
   all_goals first|(exfalso;omega)|skip
   refine⟨_,Ar _,vcR [] (lkL [(10,[4,5])]) (fun _=>[]) (fun (Q:AEx->St R.σ->Prop)=>Q AEx.ret (St.mk [(4,int i64 0),(5,int i64 0)] [cells false 2 (nth [int i64 p.atoms,ae p.rules]),cells false 27 (ad p (cb p (fun (x:Nat)=>3) (List.take (List.length l.l) l.l)) (AV.mp 2)),AObj.map (esF p.rules.l)] g)) (?_)⟩
   refine(av (bG _ _ rfl trivial ⟨⟨trivial,trivial⟩,trivial⟩ rfl) (Af _))
section
variable {p:Prg}{n:Nat}{v:List Int}{f:Nat->Int}
theorem zE (hpa:p.atoms=n){l:List Int}(h:∀i,i<l.length->eG p f l i=true):∀a,a∈l->0<=a/\a<n/\f a.toNat=3:=by
 intro a hm
 obtain⟨i,hi,rfl⟩:=List.getElem_of_mem hm
 have h1:=h i hi
 have h2:=jN (lq h1)
 have e:l.getD i 0=l[i]:=by rw[List.getD_eq_getElem?_getD,List.getElem?_eq_getElem hi];rfl
 rw[e,hpa] at h2
 refine⟨h2.1,omg,?_⟩
 unfold eG at h1
 rw[e] at h1
 cases hp:ep p l i with
 |false=>rw[hp] at h1;cases h1
 |true=>
  rw[hp] at h1
  exact eq_of_beq h1
theorem sF {l:List Int}(h:∀a,a∈l->0<=a)(j:Nat):(aJ l).testBit j=true↔(j:Int)∈l:=by
 rw[rr,List.any_eq_true]
 constructor
 ·rintro ⟨a,ha,hj⟩
  have:=h a ha
  have:a.toNat=j:=eq_of_beq hj
  have:a=j:=by omega
  rw[<-this];exact ha
 ·intro hm
  exact⟨j,hm,by simp⟩
end
end Go.Avm.Pack
namespace Go.Avm.Pack
open Go Go.Avm Go.Proofs
open Go.IntKind (i64 u64)
open Go.Avm.AV (int bool any fz fp sl ow ref fn ifc val agg tup)
open Go.Avm.AObj (cells dead)
open Go.Avm.Oc (ret)
set_option maxRecDepth 4000
theorem zF (R:Res)(x:Int)(l:KL Int)(n:Nat)(h0:0<n)(hn:n<25)(hl:l=⟨[x],.exa⟩)(g:R.σ):Does Tryd.prog R 46 [ah l,.int .i64 n] [] g (.ret (.sl 0 0 n n true 1)) [.cells false (n*1) (eK x n)] g:=by
 have hll:l.l.length=1:=by rw[hl];rfl
 have hroom:aB=140737488355328:=rfl
 refine spW (nt:=48) (rs:=[.tmp 4]) (k0:=0) ?_
 refine vcR [[1,0,1,0]] (lkL [(0,[0,1]),(1,[0,1,10]),(3,[0,5,6]),(4,[0,6,26]),(5,[0,6]),(6,[0,7]),(7,[7,8])]) (lkL [(3,[(2,ROrc.kop (int u64 1)),(4,ROrc.kop (int u64 (↑n:Int))),(5,ROrc.pcall (tup 2 (nth [int u64 0,int u64 (↑n:Int)])))]),(6,[(1,ROrc.kop (int i64 (↑n:Int)))]),(7,[(2,ROrc.own (int i64 (↑1:Int)) [cells false (n*1) (eK x 1)] g)])]) (fun Q=>(fun (u1:Int)=>(fun (u2:List Row)=>(fun (u3:Bool)=>(fun (u4:List (Nat × AV))=>(fun (u5:AObj)=>(false=true->WpC Tryd.prog R 48 0 46 [1,0,1,0] Q [Kont.seq [1,1]] (St.mk u4 [] g))/\(false=false->OpOk Tryd.prog R (Oper.mk (some 15) (Op.convert 3 134 (Operand.tmp 14)) 134 "slices.go:520" #[Edge.mk 1 Ground.data] none) (evO u2 u4 []) [] g (int u64 1) [] g/\OpOk Tryd.prog R (Oper.mk (some 17) (Op.convert 3 134 (Operand.tmp 16)) 134 "slices.go:520" #[Edge.mk 3 Ground.data] none) (evO (Row.mk (some 16) none (int i64 u1) false (some []) []::Row.mk (some 15) none (int u64 1) true (some []) []::u2) u4 []) [] g (int u64 u1) [] g/\(∀(hp:List AObj) (g:R.σ),true=true/\Does Tryd.prog R 93 [int u64 1,int u64 u1] hp g (ret (tup 2 (nth [int u64 0,int u64 u1]))) hp g)/\(u3=true->Q (AEx.pan (ifc 9 (AV.str (ByteArray.mk #[116,104,101,32,114,101,115,117,108,116,32,111,102,32,40,108,101,110,40,120,41,32,42,32,99,111,117,110,116,41,32,111,118,101,114,102,108,111,119,115])))) (St.mk [(0,ah l),(6,int u64 u1)] [] g))/\(u3=false->OpOk Tryd.prog R (Oper.mk (some 29) (Op.convert 134 3 (Operand.tmp 28)) 3 "slices.go:525" #[Edge.mk 0 Ground.data] none) (evO [Row.mk (some 28) none (int u64 u1) false (some []) []] [(0,ah l),(6,int u64 u1),(26,AV.bool u3)] []) [] g (int i64 u1) [] g/\0<=u1/\u1<=u1/\u1<=140737488355328/\n*8<=aB/\OpOk Tryd.prog R (Oper.mk (some 33) (Op.call (Call.mk (Callee.builtin Builtin.copy) #[Operand.tmp 31,Operand.tmp 32] #[30,30])) 3 "slices.go:526" #[Edge.mk 0 Ground.data,Edge.mk 1 Ground.data] none) (evO [Row.mk (some 32) none (ah l) false (some []) [],Row.mk (some 31) none (sl 0 0 n n true 1) false (some []) []] [(0,ah l),(7,sl 0 0 n n true 1)] []) [cells false (n*1) fun j=>int i64 0] g (int i64 (↑1:Int)) [u5] g/\WpC Tryd.prog R 48 0 46 [1,1,1,1,1,1,0,0] Q [Kont.blk 0,Kont.seq [1,1,1,1,1,1,1]] (St.mk [(7,sl 0 0 n n true 1),(8,int i64 (↑1:Int))] [u5] g)))) (cells false (n*1) fun a=>int i64 (if a<1 then x else 0))) ([(0,ah l),(1,int i64 u1),(10,AV.bool false)])) (bif false then true else decide (u1 > 9223372036854775807))) ([Row.mk (some 14) none (int i64 (↑(List.length l.l):Int)) false (some []) [],Row.mk (some 13) none (ah l) false (some []) []])) ((↑n:Int))) ⟨fun h=>(nomatch h),fun _=>⟨?_,?_,(fun _ _=>⟨rfl,(zl _ _ omg _ _)⟩),fun c1=>have c1:false=true∨(↑n:Int) > 9223372036854775807:=((fw c1).imp (fun h=>h) (fun h=>(of_decide_eq_true h)));?_,fun c1=>have c1:false=false/\¬(↑n:Int) > 9223372036854775807:=⟨(cI c1).1,(of_decide_eq_false (cI c1).2)⟩;⟨?_,omg,omg,omg,omg,?_,?_⟩⟩⟩
 ·exact ix (out:=⟨.int .u64 (IntKind.u64.wrap (l.l.length:Int)),[],[],.pure⟩) krf trivial (Ag (by rw[hll];kernel_rfl))
 ·exact ix (out:=⟨.int .u64 (IntKind.u64.wrap (n:Int)),[],[],.pure⟩) krf trivial (Ag (zm hn))
 ·rcases c1 with h|h
  ·cases h
  ·omega
 ·exact ix (out:=⟨.int .i64 (IntKind.i64.wrap (n:Int)),[],[],.pure⟩) krf trivial (Ag (zn hn))
 ·refine qo (t:=30) (es:=1) (N:=n*1) (n:=l.l.length) (len:=n) (ob:=0) (off:=0) (cap:=n) (ex:=true) (get0:=fun _=>.int .i64 0) (get':=eK x 1) (new:=fun i _=>.int .i64 (l.l.getD i 0)) (ob1:=[]) 1 rfl rfl rfl rfl rfl rfl krf rfl trivial (by rw[hll];omega) dcd dcd omg (fun c hc=>?_)
  show AV.int .i64 (if c<1 then x else 0)=if 0<=c/\c<0+1*1 then AV.int .i64 (l.l.getD ((c-0)/1) 0) else AV.int .i64 0
  by_cases h:c<1
  ·rw[if_pos h,if_pos omg,show(c-0)/1=0 by omega,hl]
   rfl
  ·rw[if_neg h,if_neg omg]
 ·refine(bl krf (fun (m:Nat)=>⟨[(7,sl 0 0 n n true 1),(8,.int .i64 m)],[.cells false (n*1) (eK x m)],g⟩) (fun (m:Nat)=>(0<m/\m<=n)) (fun (m:Nat)=>(n-m)) 1 (a8 ⟨Af _,(Ag krf),trivial⟩ rfl rfl) ?_ (fun m hi=>?_))
  ·omega
  ·obtain⟨h1,h2⟩:=hi
   obtain⟨q,hq⟩:∃q,q=min m (n-m):=⟨_,rfl⟩
   refine vcR [] (lkL [(8,[7,8,37]),(9,[7,8])]) (lkL [(9,[(7,ROrc.own (int i64 (↑q:Int)) [cells false (n*1) (eK x (m+q))] g)])]) (fun Q=>(fun (u1:Int)=>(fun (u2:Int)=>(fun (u3:AObj)=>(fun (u4:AObj)=>(fun (u5:AV)=>(decide (u1<u2)=true->Flw Tryd.prog/\n<=n/\(0<=u1/\u1<=u2)/\m<n/\(0<=u1/\u1<=u2)/\0<n/\OpOk Tryd.prog R (Oper.mk (some 45) (Op.call (Call.mk (Callee.builtin Builtin.copy) #[Operand.tmp 41,Operand.tmp 44] #[30,30])) 3 "slices.go:528" #[Edge.mk 3 Ground.data,Edge.mk 6 Ground.data] none) (evO [Row.mk (some 44) none (sl 0 0 (m-0) (n-0) true 1) false (some []) [],Row.mk (some 43) none (int i64 u1) false (some []) [],Row.mk (some 42) none u5 false (some []) [],Row.mk (some 41) none (sl 0 (0+m*1) (n-m) (n-m) true 1) false (some []) [],Row.mk (some 40) none (int i64 u1) false (some []) [],Row.mk (some 39) none u5 false (some []) [],Row.mk (some 38) none (int i64 u1) false (some []) []] [(7,u5),(8,int i64 u1),(37,AV.bool (decide (u1<u2)))] []) [u4] g (int i64 (↑q:Int)) [u3] g/\(-9223372036854775808<=u1+(↑q:Int)/\u1+(↑q:Int)<=9223372036854775807)/\Q AEx.normal (St.mk [(7,u5),(8,int i64 (u1+(↑q:Int)))] [u3] g))/\(decide (u1<u2)=false->Q (AEx.exit 0) (St.mk [(7,u5),(8,int i64 u1),(37,AV.bool (decide (u1<u2)))] [u4] g))) (sl 0 0 n n true 1)) (cells false (n*1) fun a=>int i64 (if a<m then x else 0))) (cells false (n*1) fun a=>int i64 (if a<m+q then x else 0))) ((↑n:Int))) ((↑m:Int))) ⟨fun c1=>have c1:(↑m:Int)<(↑n:Int):=(of_decide_eq_true c1);⟨krf,omg,omg,omg,omg,omg,?_,omg,?_⟩,fun c1=>have c1:¬(↑m:Int)<(↑n:Int):=(of_decide_eq_false c1);?_⟩
   ·refine qo (t:=30) (es:=1) (N:=n*1) (n:=m-0) (len:=n-m) (ob:=0) (off:=0+m*1) (cap:=n-m) (ex:=true) (get0:=eK x m) (get':=eK x (m+q)) (new:=fun i j=>eK x m (0+i*1+j)) (ob1:=[0+(m-0)*1<=n*1]) q rfl rfl rfl rfl rfl rfl krf rfl ⟨omg,trivial⟩ omg omg dcd omg (fun c hc=>?_)
    show AV.int .i64 (if c<m+q then x else 0)=if 0+m*1<=c/\c<0+m*1+q*1 then AV.int .i64 (if 0+(c-(0+m*1))/1*1+(c-(0+m*1))%1<m then x else 0) else AV.int .i64 (if c<m then x else 0)
    by_cases h:0+m*1<=c/\c<0+m*1+q*1
    ·rw[if_pos h,if_pos omg,if_pos omg]
    ·rw[if_neg h]
     congr 1
     by_cases h2:c<m
     ·rw[if_pos h2,if_pos omg]
     ·rw[if_neg h2,if_neg omg]
   ·refine(aU (m+q) (a8 ⟨Af _,(Ag krf),trivial⟩ rfl rfl) ?_ ?_)
    ·omega
    ·omega
   ·have:m=n:=by omega
    subst this
    refine⟨_,Ar _,vcR [] (lkL [(10,[4])]) (fun _=>[]) (fun (Q:AEx->St R.σ->Prop)=>Q AEx.ret (St.mk [(4,sl 0 0 m m true 1)] [cells false (m*1) fun (a:Nat)=>int i64 (if a<m then x else 0)] g)) (?_)⟩
    refine(av (aS _ _ rfl trivial rfl rfl rfl) (Af _))
theorem zG (R:Res)(x:Int)(l:KL Int)(n:Nat)(h0:0<n)(hn:n<25)(hl:l=⟨[x],.exa⟩)(hp:List AObj)(g:R.σ):Does Tryd.prog R 46 [ah l,.int .i64 n] hp g (.ret (.sl hp.length 0 n n true 1)) (hp++[.cells false (n*1) (eK x n)]) g:=
 eW [] hp.length (fun R g=>zF R x l n h0 hn hl g) rfl rfl rfl trivial trivial ⟨Af _,Af _,trivial⟩ (Af _) (ny _)
theorem zH (R:Res)(l:KL Int)(u:Value)(q:Int->Bool)(g:R.σ)(hl:l.l.length<1000000)
  (hu:∀r,r∈l.l->∀hp,VDoes Tryd.prog R u [.int .i64 r] hp g (.ret (.bool (q r))) hp g) :
  Does Tryd.prog R 108 [ah l,.val u] [] g (.ret (.int .i64 (aD q l.l 0))) [] g:=by
 refine spW (nt:=19) (rs:=[.tmp 4]) (k0:=0) ?_
 refine vcR [] (lkL [(0,[0,1]),(1,[0,1,7,8])]) (fun _=>[]) (fun (Q:AEx->St R.σ->Prop)=>WpC Tryd.prog R 19 0 108 [1,0,1,0] Q [Kont.blk 0,Kont.seq [1,1]] (St.mk [(0,ah l),(1,val u),(7,int i64 (↑(List.length l.l):Int)),(8,int i64 0)] [] g)) (?_)
 refine(bl krf (fun (i:Nat)=>⟨[(0,ah l),(1,val u),(7,int i64 (l.l.length:Int)),(8,.int .i64 (i:Int))],[],g⟩) (fun (i:Nat)=>(i<=l.l.length/\aD q l.l 0=aD q (l.l.drop i) i)) (fun (i:Nat)=>(l.l.length-i)) 0 (a8 ⟨Af _,Af _,Af _,(Ag krf),trivial⟩ rfl rfl) ?_ (fun i hi=>?_))
 ·exact⟨Nat.zero_le _,rfl⟩
 ·obtain⟨h1,h2⟩:=hi
  refine vcR [] (lkL [(2,[0,1,7,8,9]),(3,[0,1,5,7,8]),(4,[0,1,5,7,8,16]),(5,[4]),(6,[0,1,7,8])]) (lkL [(4,[(5,ROrc.kcall (AV.bool (q (List.getD l.l i 0))))])]) (fun Q=>(fun (u1:Int)=>(fun (u2:Int)=>(decide (u2<u1)=true->(0<=u2/\u2<u1)/\1<=1/\VDoes Tryd.prog R u [int i64 (List.getD l.l i 0)] [] g (ret (AV.bool (q (List.getD l.l i 0)))) [] g/\(q (List.getD l.l i 0)=true->Q AEx.ret (St.mk [(4,int i64 u2)] [] g))/\(q (List.getD l.l i 0)=false->(-9223372036854775808<=u2+1/\u2+1<=9223372036854775807)/\Q AEx.normal (St.mk [(0,ah l),(1,val u),(7,int i64 u1),(8,int i64 (u2+1))] [] g)))/\(decide (u2<u1)=false->Q (AEx.exit 0) (St.mk [(0,ah l),(1,val u),(7,int i64 u1),(8,int i64 u2),(9,AV.bool (decide (u2<u1)))] [] g))) ((↑i:Int))) ((↑(List.length l.l):Int))) ⟨fun c1=>have c1:(↑i:Int)<(↑(List.length l.l):Int):=(of_decide_eq_true c1);⟨omg,omg,(hu _ ?_ _),fun c2=>?_,fun c2=>⟨omg,?_⟩⟩,fun c1=>have c1:¬(↑i:Int)<(↑(List.length l.l):Int):=(of_decide_eq_false c1);?_⟩
  ·exact bR l.l 0 omg
  ·refine⟨_,Ar _,(av (aS _ _ rfl trivial rfl rfl rfl) (Ag ?_))⟩
   show(int i64 (↑i:Int))=_
   show AV.int _ _=AV.int _ _
   rw[h2,fC l.l 0 omg];unfold aD;rw[if_pos c2]
  ·refine(aU (i+1) (a8 ⟨Af _,Af _,Af _,(Ag krf),trivial⟩ rfl rfl) ?_ ?_)
   ·refine⟨omg,?_⟩
    rw[h2,fC l.l 0 omg];conv=>lhs;unfold aD
    rw[c2];rfl
   ·omega
  ·refine⟨_,Ar _,vcR [] (lkL [(7,[4])]) (fun _=>[]) (fun (Q:AEx->St R.σ->Prop)=>Q AEx.ret (St.mk [(4,int i64 (-1))] [] g)) (?_)⟩
   refine(av (aS _ _ rfl trivial rfl rfl rfl) (Ag ?_))
   show(int i64 (-1))=_
   show AV.int _ _=AV.int _ _
   rw[h2,List.drop_eq_nil_of_le omg];rfl
theorem zI (R:Res)(l:KL Int)(u:Value)(q:Int->Bool)(g:R.σ)(hl:l.l.length<1000000)
  (hu:∀r,r∈l.l->∀hp,VDoes Tryd.prog R u [.int .i64 r] hp g (.ret (.bool (q r))) hp g) :
  Does Tryd.prog R 86 [ah l,.val u] [] g (.ret (.bool (l.l.any q))) [] g:=by
 refine spW (nt:=9) (rs:=[.tmp 4]) (k0:=0) ?_
 refine vcR [] (lkL [(0,[0,1]),(1,[4])]) (lkL [(1,[(2,ROrc.kcall (int i64 (aD q l.l 0)))])]) (fun Q=>(true=true/\Does Tryd.prog R 108 [ah l,val u] [] g (ret (int i64 (aD q l.l 0))) [] g)/\Q AEx.ret (St.mk [(4,AV.bool (decide (aD q l.l 0 >= 0)))] [] g)) ⟨⟨rfl,(zH _ _ _ _ _ omg (fun _ _ _=>hu _ omg _))⟩,?_⟩
 refine(av (aS _ _ rfl trivial rfl rfl rfl) (Ag ?_))
 show(AV.bool (decide (aD q l.l 0 >= 0)))=_
 show AV.bool _=AV.bool _
 rw[ns]
theorem zJ (R:Res)(l:KL Int)(f na nb:Nat)(a b:Nat->AV)(q:Int->Bool)(hp:List AObj)(g:R.σ)(hl:l.l.length<1000000)(hpl:ck Tryd.prog f=true)
  (h:∀r,r∈l.l->Does Tryd.prog R f (tab na 0 a++[.int .i64 r]++tab nb 0 b) hp g (.ret (.bool (q r))) hp g) :
  Does Tryd.prog R 86 [ah l,.fn f na a nb b] hp g (.ret (.bool (l.l.any q))) hp g:=
 kF (pre:=[ah l]) (D:=fun r=>r∈l.l) (args:=fun r=>[.int .i64 r]) (oc1:=fun r=>.ret (.bool (q r))) ⟨trivial,trivial⟩ hpl (fun r=>⟨trivial,trivial⟩) (fun _=>trivial) h
  (fun R' g' u hu=>zI R' l u q g' hl hu)
def oy (x:Int):Bool:=bif decide (x<1) then true else decide (x > 3)
theorem zK (R:Res)(x:Int)(hp:List AObj)(g:R.σ):Does Tryd.prog R 87 [.int .i64 x] hp g (.ret (.bool (oy x))) hp g:=by
 refine bN (fun R g=>?_) (by exact⟨trivial,trivial⟩) R hp g
 refine spW (nt:=9) (rs:=[.tmp 2]) (k0:=0) ?_
 refine vcR [] (lkL [(0,[0]),(1,[2])]) (fun _=>[]) (fun (Q:AEx->St R.σ->Prop)=>Q AEx.ret (St.mk [(2,AV.bool (bif decide (x<1) then true else decide (x > 3)))] [] g)) (?_)
 refine(av (aS _ _ rfl trivial rfl rfl rfl) (Ag krf))
theorem zL (R:Res)(p:Prg)(v:KL Int)(hl:(v.l.length:Int)=p.atoms/\p.atoms<1000000)(hv:∀x,x∈v.l->1<=x/\x<=3)(hp:List AObj)(g:R.σ):Does Tryd.prog R 36 [au p,ah v] hp g (.ret (.bool true)) hp g:=by
 refine bN (fun R g=>?_) (by exact⟨⟨⟨trivial,trivial⟩,trivial⟩,trivial,trivial⟩) R hp g
 have hany:v.l.any oy=false:=by
  rw[List.any_eq_false]
  intro x hx
  have:=hv x hx
  unfold oy
  rw[decide_eq_false omg,decide_eq_false omg]
  decide
 refine spW (nt:=15) (rs:=[.tmp 4]) (k0:=0) ?_
 refine vcR [] (lkL [(0,[1,2]),(1,[4])]) (lkL [(1,[(7,ROrc.kcall (AV.bool false))])]) (fun Q=>(fun (u1:AObj)=>1<=2/\(((v.l.length:Int)==p.atoms)=true->true=true/\Does Tryd.prog R 86 [ah v,fn 87 0 (fun (x:Nat)=>any) 0 fun x=>any] [u1] g (ret (AV.bool false)) [u1] g)/\Q AEx.ret (St.mk [(4,AV.bool (bif (v.l.length:Int)==p.atoms then true else false))] [u1] g)) (cells false 2 (nth [int i64 p.atoms,ae p.rules]))) ⟨omg,(fun hgd=>⟨rfl,(jz hany (zJ _ _ _ _ _ _ _ _ _ _ omg krf (fun r _=>(zK _ _ _ _))))⟩),?_⟩
 refine(av (bG _ _ rfl trivial trivial rfl) (Ag ?_))
 show(AV.bool (bif (↑(List.length v.l):Int)==p.atoms then true else false))=_
 rw[hl.1,beq_self_eq_true]
 rfl
def bx (s:Stp):Int:=if s.rule = -1 then 1 else 2
def dI (w:Nat->Int)(x:Int)(l:List Int):Nat->Int:=fun j=>if (j:Int)∈l then x else w j
structure StpFit (p:Prg)(w:Nat->Int)(s:Stp):Prop where
 can:okS p w (ak s)=true
 new:newS p w (ak s)=bI w s
 at_:∀a,a∈s.atoms->0<=a/\a<p.atoms/\w a.toNat=3
 inj:∀i j,i<j->j<s.atoms.length->s.atoms.getD i 0≠s.atoms.getD j 0
 upd:bI w s=dI w (bx s) s.atoms
def cp (w:Nat->Int):Nat->AV:=fun j=>.int .i64 (w j)
theorem fc {k:Nat}(b:Nat->Int)(j:Nat):Below k (cp b j):=trivial
theorem gc {f:Nat->Nat}(h:True){b:Nat->Int}{j:Nat}:aG f (cp b j)=cp b j:=rfl
theorem zM {b b':Nat->Int}{a:Nat}{x:Int}(hb:∀j,b' j=if j=a then x else b j){c:Nat}:aj (cp b) a 1 (fun _=>.int .i64 x) c=cp b' c:=by
 rw[cY]
 unfold cp
 rw[hb]
 by_cases h:c=a
 ·rw[if_pos omg,if_pos h]
 ·rw[if_neg omg,if_neg h]
theorem zN {w:Nat->Int}{x:Int}{l:List Int}{i:Nat}(h:i<l.length)(h0:0<=l.getD i 0)(j:Nat):dI w x (l.take (i+1)) j=if j=(l.getD i 0).toNat then x else dI w x (l.take i) j:=by
 unfold dI
 rw[List.take_add_one,List.getElem?_eq_getElem h]
 have e:l.getD i 0=l[i]:=by rw[List.getD_eq_getElem?_getD,List.getElem?_eq_getElem h];rfl
 rw[e] at h0 ⊢
 by_cases hj:(j:Int)=l[i]
 ·rw[if_pos (List.mem_append.2 (.inr (by rw[hj];simp))),if_pos omg]
 ·rw[if_neg (show ¬j=l[i].toNat by omega)]
  by_cases hm:(j:Int)∈l.take i
  ·rw[if_pos (List.mem_append.2 (.inl hm)),if_pos hm]
  ·rw[if_neg (fun h=>(List.mem_append.1 h).elim hm (fun h=>hj (by simpa using h))),if_neg hm]
theorem zO {b b':Nat->Int}{a:Nat}{x y:Int}(hb:∀j,b' j=if j=a then x else b j){c:Nat}:aj (aj (cp b) a 1 (fun _=>.int .i64 y)) a 1 (fun _=>.int .i64 x) c=cp b' c:=by
 rw[cY,cY]
 unfold cp
 rw[hb]
 by_cases h:c=a
 ·rw[if_pos omg,if_pos h]
 ·rw[if_neg omg,if_neg omg,if_neg h]
def rkI (p:Prg)(k:Nat):Int:=(IntKind.i64.wrap (IntKind.u32.wrap ((k:Int).tdiv 2))).tmod (p.rules.l.length:Int)
theorem zP {p:Prg}{k:Nat}(hk:k<2^32):rkI p k=((k/2)%p.rules.l.length:Nat):=by
 unfold rkI
 have e:(k:Int).tdiv 2=((k/2:Nat):Int):=rfl
 rw[e,IntWalk.u32_in _ omg,IntWalk.i64_in _ omg]
 rfl
theorem zQ {p:Prg}{k:Nat}(hk:k<2^32)(h:0<p.rules.l.length):0<=rkI p k/\rkI p k<p.rules.l.length:=by
 rw[zP hk]
 have:=Nat.mod_lt (k/2) h
 omega
theorem zR (R:Res)(p:Prg)(w:Nat->Int)(n k:Nat)(hn:0<n/\n<=24)(hk:k<2^32)(hl:p.rules.l.length<1000000)(hc:(k:Int).tmod 2=0/\0<p.rules.l.length)(g:R.σ):Does Tryd.prog R 47 [au p,.ow true 0 n 1,.int .u32 k] [.cells false (n*1) (cp w)] g (.ret (a9 ⟨rkI p k,[(p.rules.l.getD (rkI p k).toNat default).head],.auto⟩)) [.cells false (n*1) (cp w)] g:=by
 have hroom:aB=140737488355328:=rfl
 have hin:=zQ (p:=p) hk hc.2
 refine spW (nt:=63) (rs:=[.cell 6 71]) (k0:=1) ?_
 refine vcR [] (lkL [(0,[1,2,3,6]),(1,[1,2,3,6,7]),(2,[1,2,3,6,7,21]),(3,[3,6,8]),(4,[6]),(5,[1,2,6,9]),(6,[2,6,9,37,38,39])]) (lkL [(4,[(9,ROrc.val (Orc.obj (nth [int i64 (Int.tmod (IntKind.wrap i64 (IntKind.wrap IntKind.u32 (Int.tdiv (↑k:Int) 2))) (↑(List.length p.rules.l):Int)),sl 3 0 1 1 true 1])))]),(5,[(2,ROrc.val (Orc.obj (nth [int i64 (-1),fz Fz.nil 0 0 fun (x x_1:Nat)=>any])))])]) (fun Q=>(fun (u1:Int)=>(fun (u2:List AV)=>(fun (u3:Int)=>(fun (u4:Bool)=>(fun (u5:List AV)=>(fun (u6:AObj)=>2<=2/\(↑2:Int)≠0/\(u4=true->(↑2:Int)≠0/\u3≠0/\2<=2/\(0<=u1/\u1<u3)/\1<=2/\2<=2/\(∀(c:Nat),c<2->nth u5 c=aj (nth (int i64 0::u2)) 0 2 (List.brecOn (motive:=fun (x:List AV)=>Nat->AV) u5 nth._f) c)/\Q AEx.ret (St.mk [(6,ref 2 0)] [cells false (n*1) fun a=>int i64 (w a),u6,cells false 2 (nth u5),cells false 1 (aj (fun (j:Nat)=>int i64 0) 0 1 fun x=>int i64 (List.getD p.rules.l (Int.toNat u1) default).head)] g))/\(u4=false->2<=2/\(∀(c:Nat),c<2->nth (int i64 (-1)::u2) c=aj (nth (int i64 0::u2)) 0 2 (List.brecOn (motive:=fun (x:List AV)=>Nat->AV) (int i64 (-1)::u2) nth._f) c)/\WpC Tryd.prog R 63 1 47 [1,1,1,0,1,0] Q [Kont.blk 0,Kont.seq [1,1,1,1]] (St.mk [(2,int IntKind.u32 (↑k:Int)),(6,ref 2 0),(9,ref 3 0),(37,ow true 0 n 1),(38,int i64 (↑n:Int)),(39,int i64 0)] [cells false (n*1) fun a=>int i64 (w a),u6,cells false 2 (nth (int i64 0::u2)),cells false 2 (nth (int i64 (-1)::u2))] g))) (cells false 2 (nth [int i64 p.atoms,ae p.rules]))) ([int i64 u1,sl 3 0 1 1 true 1])) (bif Int.tmod (↑k:Int) 2==0 then decide (u3 > 0) else false)) ((↑(List.length p.rules.l):Int))) ([fz Fz.nil 0 0 fun x x_1=>any])) (Int.tmod (IntKind.wrap i64 (IntKind.wrap IntKind.u32 (Int.tdiv (↑k:Int) 2))) (↑(List.length p.rules.l):Int))) ⟨omg,omg,fun c1=>have c1:Int.tmod (↑k:Int) 2=0/\(↑(List.length p.rules.l):Int) > 0:=⟨(beq_iff_eq.mp (ek c1).1),(of_decide_eq_true (ek c1).2)⟩;⟨omg,omg,omg,by assumption,omg,omg,(fun c hc=>match c,hc with|0,_=>krf|1,_=>krf ),?_⟩,fun c1=>have c1:¬Int.tmod (↑k:Int) 2=0∨¬(↑(List.length p.rules.l):Int) > 0:=((io c1).imp (fun h=>(beq_eq_false_iff_ne.mp h)) (fun h=>(of_decide_eq_false h)));⟨omg,(fun c hc=>match c,hc with|0,_=>krf|1,_=>krf ),?_⟩⟩
 ·show bt Tryd.prog R 1 _ _ _ _ .ret _
  exact eA (.agg 2 (nth [.int .i64 (rkI p k),.sl 3 0 1 1 true 1])) _ rfl (by exact⟨dcd,trivial⟩) (To.trans (toS (s':=⟨[(0,.agg 2 (nth [.int .i64 (rkI p k),.ow true 1 1 1]))],[.cells false (n*1) (cp w),.cells false (1*1) (af [(p.rules.l.getD (rkI p k).toNat default).head])],g⟩) [0,3] 4 (hfr:=⟨Ak (fun j hj=>match j,hj with|0,_=>Af _|1,_=>Ao dcd),trivial⟩) (hob:=⟨Ai _,Ap (fun j hj=>match j,hj with|0,_=>rfl),trivial⟩))
   (fY 1 [(0,a9 ⟨rkI p k,[(p.rules.l.getD (rkI p k).toNat default).head],.auto⟩)] (Nat.le_refl _) (by show 1<=2;omega) (fun i hi=>match i,hi with|0,_=>fun j hj=>fc _ _) ⟨aA.agg (fun j hj=>match j,hj with|0,_=>Am trivial|1,_=>sk (o:=1) rfl rfl (Nat.le_refl _)),trivial⟩))
 ·exfalso
  rcases c1 with h|h
  ·exact h hc.1
  ·omega
def iO (w:Nat->Int)(k i:Nat):Bool:=bif w i==3 then IntKind.u32.wrap ((BitVec.ofInt 32 ((k:Int).fdiv (2^min (1+i%24) 32))&&&BitVec.ofInt 32 1).toNat:Int)==0 else false
def bF (w:Nat->Int)(k i:Nat):List Int:=((List.range i).filter (iO w k)).map fun (a:Nat)=>(a:Int)
theorem zS {w:Nat->Int}{k i:Nat}:bF w k (i+1)=if iO w k i then bF w k i++[(i:Int)] else bF w k i:=by
 unfold bF
 rw[List.range_succ,List.filter_append,List.map_append]
 cases h:iO w k i <;> simp[h]
theorem sG {w:Nat->Int}{k i:Nat}:(bF w k i).length<=i:=by
 unfold bF
 rw[List.length_map]
 exact Nat.le_trans (List.length_filter_le _ _) (by rw[List.length_range];exact Nat.le_refl _)
theorem zT (R:Res)(p:Prg)(w:Nat->Int)(n k:Nat)(hn:0<n/\n<=24)(hk:k<2^32)(hl:p.rules.l.length<1000000)(hc:¬((k:Int).tmod 2=0/\0<p.rules.l.length))(g:R.σ):Does Tryd.prog R 47 [au p,.ow true 0 n 1,.int .u32 k] [.cells false (n*1) (cp w)] g (.ret (a9 ⟨-1,bF w k n,.auto⟩)) [.cells false (n*1) (cp w)] g:=by
 have hroom:aB=140737488355328:=rfl
 refine spW (nt:=63) (rs:=[.cell 6 71]) (k0:=1) ?_
 refine vcR [] (lkL [(0,[1,2,3,6]),(1,[1,2,3,6,7]),(2,[1,2,3,6,7,21]),(3,[3,6,8]),(4,[6]),(5,[1,2,6,9]),(6,[2,6,9,37,38,39])]) (lkL [(4,[(9,ROrc.val (Orc.obj (nth [int i64 (Int.tmod (IntKind.wrap i64 (IntKind.wrap IntKind.u32 (Int.tdiv (↑k:Int) 2))) (↑(List.length p.rules.l):Int)),sl 3 0 1 1 true 1])))]),(5,[(2,ROrc.val (Orc.obj (nth [int i64 (-1),fz Fz.nil 0 0 fun (x x_1:Nat)=>any])))])]) (fun Q=>(fun (u1:Int)=>(fun (u2:List AV)=>(fun (u3:Int)=>(fun (u4:Bool)=>(fun (u5:List AV)=>(fun (u6:AObj)=>2<=2/\(↑2:Int)≠0/\(u4=true->(↑2:Int)≠0/\u3≠0/\2<=2/\(0<=u1/\u1<u3)/\1<=2/\2<=2/\(∀(c:Nat),c<2->nth u5 c=aj (nth (int i64 0::u2)) 0 2 (List.brecOn (motive:=fun (x:List AV)=>Nat->AV) u5 nth._f) c)/\Q AEx.ret (St.mk [(6,ref 2 0)] [cells false (n*1) fun a=>int i64 (w a),u6,cells false 2 (nth u5),cells false 1 (aj (fun (j:Nat)=>int i64 0) 0 1 fun x=>int i64 (List.getD p.rules.l (Int.toNat u1) default).head)] g))/\(u4=false->2<=2/\(∀(c:Nat),c<2->nth (int i64 (-1)::u2) c=aj (nth (int i64 0::u2)) 0 2 (List.brecOn (motive:=fun (x:List AV)=>Nat->AV) (int i64 (-1)::u2) nth._f) c)/\WpC Tryd.prog R 63 1 47 [1,1,1,0,1,0] Q [Kont.blk 0,Kont.seq [1,1,1,1]] (St.mk [(2,int IntKind.u32 (↑k:Int)),(6,ref 2 0),(9,ref 3 0),(37,ow true 0 n 1),(38,int i64 (↑n:Int)),(39,int i64 0)] [cells false (n*1) fun a=>int i64 (w a),u6,cells false 2 (nth (int i64 0::u2)),cells false 2 (nth (int i64 (-1)::u2))] g))) (cells false 2 (nth [int i64 p.atoms,ae p.rules]))) ([int i64 u1,sl 3 0 1 1 true 1])) (bif Int.tmod (↑k:Int) 2==0 then decide (u3 > 0) else false)) ((↑(List.length p.rules.l):Int))) ([fz Fz.nil 0 0 fun x x_1=>any])) (Int.tmod (IntKind.wrap i64 (IntKind.wrap IntKind.u32 (Int.tdiv (↑k:Int) 2))) (↑(List.length p.rules.l):Int))) ⟨omg,omg,fun c1=>have c1:Int.tmod (↑k:Int) 2=0/\(↑(List.length p.rules.l):Int) > 0:=⟨(beq_iff_eq.mp (ek c1).1),(of_decide_eq_true (ek c1).2)⟩;⟨omg,omg,omg,omg,omg,omg,(fun c hc=>match c,hc with|0,_=>krf|1,_=>krf ),?_⟩,fun c1=>have c1:¬Int.tmod (↑k:Int) 2=0∨¬(↑(List.length p.rules.l):Int) > 0:=((io c1).imp (fun h=>(beq_eq_false_iff_ne.mp h)) (fun h=>(of_decide_eq_false h)));⟨omg,(fun c hc=>match c,hc with|0,_=>krf|1,_=>krf ),?_⟩⟩
 all_goals first|(exfalso;exact hc ⟨c1.1,omg⟩)|skip
 ·refine cm (f9 (fun _=>.any) 1) ?_
  refine(bl krf (fun (x:Nat × Nat)=>⟨[(2,int IntKind.u32 (k:Int)),(6,ref 2 0),(9,ref 3 0),(37,ow true 0 n 1),(38,int i64 (n:Int)),(39,.int .i64 x.1)],[.cells false (n*1) (cp w),.cells false 2 (nth [.int .i64 p.atoms,ae p.rules]),.cells false 2 (nth [.int .i64 0,.fz .nil 0 0 (fun _ _=>.any)]),.cells false 2 (nth [.int .i64 (-1),.ow true 4 x.2 1]),.cells false (x.2*1) (af (bF w k x.1))],g⟩) (fun (x:Nat × Nat)=>(x.1<=n/\x.2=(bF w k x.1).length)) (fun (x:Nat × Nat)=>(n-x.1)) ((0,0):Nat × Nat) (toL (h1:=⟨Af _,Af _,Af _,Af _,Af _,(Ag krf),trivial⟩) (h2:=⟨Ah,Ah,Ah,⟨rfl,Nat.le_refl _,fun j hj=>match j,hj with|0,_=>(Af _)|1,_=>Le.nil_ow ⟩,⟨rfl,Nat.le_refl _,fun j hj=>absurd hj (Nat.not_lt_zero j)⟩,trivial⟩)) ?_ (fun x hi=>?_))
  ·exact⟨Nat.zero_le _,rfl⟩
  ·obtain⟨i,m⟩:=x
   obtain⟨hi,hm⟩:=hi
   simp only at hi hm
   have hpl:=sG (w:=w) (k:=k) (i:=i)
   have hps:=zS (w:=w) (k:=k) (i:=i)
   rcases Nat.lt_or_ge i n with hlt|hge
   ·have hcl:decide ((i:Int)<(n:Int))=true:=decide_eq_true omg
    have htm:(i:Int).tmod 24=((i%24:Nat):Int):=rfl
    cases hb:iO w k i with
    |true=>
     rw[hb,if_pos rfl] at hps
     unfold iO at hb
     refine vcR [[1,1,1,0,1,0,0,1,1,0,0,1,1,1],[1,1,1,0,1,0,0,1,0,1]] (lkL [(7,[2,6,9,37,38,39,40]),(8,[2,6,9,10,11,37,38,39]),(9,[2,6,9,10,37,38,39,54]),(10,[2,6,9,37,38,39]),(11,[2,6,9,37,38,39])]) (lkL [(10,[(4,ROrc.val (Orc.obj (af (bF w k i++[(↑i:Int)])))),(6,ROrc.val (Orc.obj (nth [int i64 (-1),ow true 6 (m+1) 1])))])]) (fun Q=>(fun (u1:Bool)=>(fun (u2:List AObj)=>(fun (u3:Int)=>(fun (u4:Int)=>(fun (u5:Nat × AV)=>(decide (u3<u4)=true->(0<=u3/\u3<u4)/\i+1<=n*1/\((w i==3)=true->(↑24:Int)≠0)/\((w i==3)=true -> -9223372036854775808<=1+Int.tmod u3 24/\1+Int.tmod u3 24<=9223372036854775807)/\((w i==3)=true->0<=1+Int.tmod u3 24)/\(u1=true->2<=2/\0<1/\(m+1)*8<=aB/\m+1<=aB/\1<=1/\m*1<=m*1/\(∀(c:Nat),c<(m+1)*1->af (bF w k i++[u3]) c=aT 1 m (fun (i_1 j:Nat)=>af (bF w k i) (i_1*1+j)) (fun (i j:Nat)=>aj (fun (j:Nat)=>int i64 0) 0 1 (fun (x:Nat)=>int i64 u3) (0+i*1+j)) c)/\2<=2/\(∀(c:Nat),c<2->nth [int i64 (-1),ow true 6 (m+1) 1] c=aj (nth [int i64 (-1),ow true 4 m 1]) 1 1 (fun (x:Nat)=>ow true 6 (m+1) 1) c)/\(-9223372036854775808<=u3+1/\u3+1<=9223372036854775807)/\Q AEx.normal (St.mk [u5,(6,ref 2 0),(9,ref 3 0),(37,ow true 0 n 1),(38,int i64 u4),(39,int i64 (u3+1))] [cells false (n*1) fun a=>int i64 (w a),cells false 2 (nth [int i64 p.atoms,ae p.rules]),cells false 2 (nth [int i64 0,fz Fz.nil 0 0 fun x x_1=>any]),cells false 2 (nth [int i64 (-1),ow true 6 (m+1) 1]),dead,cells false 1 (aj (fun (j:Nat)=>int i64 0) 0 1 fun x=>int i64 u3),cells false ((m+1)*1) fun a=>af (bF w k i++[u3]) a] g))/\(u1=false->WpC Tryd.prog R 63 1 47 [1,1,1,0,1,0,0,1,1,0,0,1,1,1] Q [Kont.blk 1,Kont.seq [1,1,1,0,1,0,0,1,1,1]] (St.mk [u5,(6,ref 2 0),(9,ref 3 0),(10,int i64 u3),(37,ow true 0 n 1),(38,int i64 u4),(39,int i64 u3),(54,AV.bool u1)] u2 g)))/\(decide (u3<u4)=false->WpC Tryd.prog R 63 1 47 [1,1,1,0,1,0,0,1,0,1] Q [Kont.seq [1,1,1,0,1,0,0,1,1]] (St.mk [u5,(6,ref 2 0),(9,ref 3 0),(37,ow true 0 n 1),(38,int i64 u4),(39,int i64 u3),(40,AV.bool (decide (u3<u4)))] u2 g))) ((2,int IntKind.u32 (↑k:Int)))) ((↑n:Int))) ((↑i:Int))) ([cells false (n*1) fun a=>int i64 (w a),cells false 2 (nth [int i64 p.atoms,ae p.rules]),cells false 2 (nth [int i64 0,fz Fz.nil 0 0 fun x x_1=>any]),cells false 2 (nth [int i64 (-1),ow true 4 m 1]),cells false (m*1) fun a=>af (bF w k i) a])) (bif w i==3 then IntKind.wrap IntKind.u32 (↑(BitVec.toNat (BitVec.ofInt 32 (Int.fdiv (↑k:Int) (2^min (1+i%24) 32))&&&BitVec.ofInt 32 1)):Int)==0 else false)) ⟨fun _=>⟨omg,omg,omg,omg,omg,fun _=>⟨omg,omg,omg,omg,omg,omg,?_,omg,(fun c hc=>match c,hc with|0,_=>krf|1,_=>krf ),omg,?_⟩,fun hcc=>(nomatch (hb.symm.trans hcc))⟩,fun hcc=>(nomatch (hcl.symm.trans hcc))⟩
     ·intro c hc
      rw[hm] at hc ⊢
      exact(rY (z:=fun _=>.int .i64 0) hc).trans krf
     ·refine(aU (i+1,m+1) (toS [0,1,2,3,6] 7 (hob:=⟨?_,⟨rfl,Nat.le_refl _,fun j hj=>match j,hj with|0,_=>(Af _)|1,_=>(Af _) ⟩,⟨rfl,Nat.le_refl _,fun j hj=>match j,hj with|0,_=>(Af _)|1,_=>(Af _) ⟩,⟨rfl,Nat.le_refl _,fun j hj=>match j,hj with|0,_=>(Af _)|1,_=>(Af _) ⟩,?_,trivial⟩)) ?_ ?_)
      ·exact⟨rfl,Nat.le_refl _,fun j _=>Af _⟩
      ·show LeO (.cells false ((m+1)*1) (af (bF w k i++[(i:Int)]))) (.cells false ((m+1)*1) (af (bF w k (i+1))))
       rw[hps]
       exact Ai _
      ·refine⟨by show i+1<=_;omega,?_⟩
       show m+1=(bF w k (i+1)).length
       rw[hps,List.length_append,<-hm]
       rfl
      ·show n-(i+1)<n-i
       omega
    |false=>
     rw[hb,if_neg dcd] at hps
     unfold iO at hb
     refine vcR [[1,1,1,0,1,0,0,1,1,0,0,1,1,0],[1,1,1,0,1,0,0,1,0,1]] (lkL [(7,[2,6,9,37,38,39,40]),(8,[2,6,9,10,11,37,38,39]),(9,[2,6,9,10,37,38,39,54]),(11,[2,6,9,37,38,39])]) (fun _=>[]) (fun Q=>(fun (u1:List AObj)=>(fun (u2:Bool)=>(fun (u3:Int)=>(fun (u4:Int)=>(fun (u5:Nat × AV)=>(decide (u3<u4)=true->(0<=u3/\u3<u4)/\i+1<=n*1/\((w i==3)=true->(↑24:Int)≠0)/\((w i==3)=true -> -9223372036854775808<=1+Int.tmod u3 24/\1+Int.tmod u3 24<=9223372036854775807)/\((w i==3)=true->0<=1+Int.tmod u3 24)/\(u2=true->WpC Tryd.prog R 63 1 47 [1,1,1,0,1,0,0,1,1,0,0,1,1,0] Q [Kont.blk 1,Kont.seq [1,1,1,0,1,0,0,1,1,1]] (St.mk [u5,(6,ref 2 0),(9,ref 3 0),(10,int i64 u3),(37,ow true 0 n 1),(38,int i64 u4),(39,int i64 u3),(54,AV.bool u2)] u1 g))/\(u2=false->(-9223372036854775808<=u3+1/\u3+1<=9223372036854775807)/\Q AEx.normal (St.mk [u5,(6,ref 2 0),(9,ref 3 0),(37,ow true 0 n 1),(38,int i64 u4),(39,int i64 (u3+1))] u1 g)))/\(decide (u3<u4)=false->WpC Tryd.prog R 63 1 47 [1,1,1,0,1,0,0,1,0,1] Q [Kont.seq [1,1,1,0,1,0,0,1,1]] (St.mk [u5,(6,ref 2 0),(9,ref 3 0),(37,ow true 0 n 1),(38,int i64 u4),(39,int i64 u3),(40,AV.bool (decide (u3<u4)))] u1 g))) ((2,int IntKind.u32 (↑k:Int)))) ((↑n:Int))) ((↑i:Int))) (bif w i==3 then IntKind.wrap IntKind.u32 (↑(BitVec.toNat (BitVec.ofInt 32 (Int.fdiv (↑k:Int) (2^min (1+i%24) 32))&&&BitVec.ofInt 32 1)):Int)==0 else false)) ([cells false (n*1) fun a=>int i64 (w a),cells false 2 (nth [int i64 p.atoms,ae p.rules]),cells false 2 (nth [int i64 0,fz Fz.nil 0 0 fun x x_1=>any]),cells false 2 (nth [int i64 (-1),ow true 4 m 1]),cells false (m*1) fun a=>af (bF w k i) a])) ⟨fun _=>⟨omg,omg,omg,omg,omg,fun hcc=>(nomatch (hb.symm.trans hcc)),fun _=>⟨omg,?_⟩⟩,fun hcc=>(nomatch (hcl.symm.trans hcc))⟩
     refine(aU (i+1,m) (toL (h1:=⟨Af _,Af _,Af _,Af _,Af _,(Ag krf),trivial⟩) (h2:=⟨Ah,Ah,Ah,Ah,?_,trivial⟩)) ?_ ?_)
     ·show LeO (.cells false (m*1) (af (bF w k i))) (.cells false (m*1) (af (bF w k (i+1))))
      rw[hps]
      exact Ai _
     ·refine⟨by show i+1<=_;omega,?_⟩
      show m=(bF w k (i+1)).length
      rw[hps,<-hm]
     ·show n-(i+1)<n-i
      omega
   ·have hie:i=n:=by omega
    subst hie
    have hcl:decide ((i:Int)<(i:Int))=false:=decide_eq_false omg
    refine vcR [[1,1,1,0,1,0,0,1,0,0]] (lkL [(7,[2,6,9,37,38,39,40])]) (fun _=>[]) (fun Q=>(fun (u1:St R.σ)=>(fun (u2:Int)=>(decide (u2<u2)=true->WpC Tryd.prog R 63 1 47 [1,1,1,0,1,0,0,1,0,0] Q [Kont.seq [1,1,1,0,1,0,0,1,1]] u1)/\(decide (u2<u2)=false->Q (AEx.exit 0) u1)) ((↑i:Int))) (St.mk [(2,int IntKind.u32 (↑k:Int)),(6,ref 2 0),(9,ref 3 0),(37,ow true 0 i 1),(38,int i64 (↑i:Int)),(39,int i64 (↑i:Int)),(40,AV.bool (decide ((↑i:Int)<(↑i:Int))))] [cells false (i*1) fun a=>int i64 (w a),cells false 2 (nth [int i64 p.atoms,ae p.rules]),cells false 2 (nth [int i64 0,fz Fz.nil 0 0 fun x x_1=>any]),cells false 2 (nth [int i64 (-1),ow true 4 m 1]),cells false (m*1) fun a=>af (bF w k i) a] g)) ⟨fun hcc=>(nomatch (hcl.symm.trans hcc)),fun _=>?_⟩
    refine⟨_,Ar _,vcR [] (lkL [(12,[6])]) (lkL [(12,[(1,ROrc.val (Orc.obj (nth [int i64 (-1),ow true 4 m 1])))])]) (fun Q=>(fun (u1:List AV)=>2<=2/\2<=2/\(∀(c:Nat),c<2->nth u1 c=aj (nth [int i64 0,fz Fz.nil 0 0 fun x x_1=>any]) 0 2 (List.brecOn (motive:=fun (x:List AV)=>Nat->AV) u1 nth._f) c)/\Q AEx.ret (St.mk [(6,ref 2 0)] [cells false (i*1) fun a=>int i64 (w a),cells false 2 (nth [int i64 p.atoms,ae p.rules]),cells false 2 (nth u1),cells false 2 (nth u1),cells false (m*1) fun a=>af (bF w k i) a] g)) ([int i64 (-1),ow true 4 m 1])) ⟨omg,omg,(fun c hc=>match c,hc with|0,_=>krf|1,_=>krf ),?_⟩⟩
    subst hm
    show bt Tryd.prog R 1 _ _ _ _ .ret _
    exact eA (.agg 2 (nth [.int .i64 (-1),.ow true 4 (bF w k i).length 1])) _ rfl (by exact⟨dcd,trivial⟩) (To.trans (toS (s':=⟨[(0,.agg 2 (nth [.int .i64 (-1),.ow true 1 (bF w k i).length 1]))],[.cells false (i*1) (cp w),.cells false ((bF w k i).length*1) (af (bF w k i))],g⟩) [0,4] 5 (hob:=⟨Ai _,Ai _,trivial⟩))
     (fY 1 [(0,a9 ⟨-1,bF w k i,.auto⟩)] (Nat.le_refl _) (by show 1<=2;omega) (fun i hi=>match i,hi with|0,_=>fun j hj=>fc _ _) ⟨aA.agg (fun j hj=>match j,hj with|0,_=>Am trivial|1,_=>sk (o:=1) rfl rfl (Nat.le_refl _)),trivial⟩))
def dv (p:Prg)(w:Nat->Int)(n k:Nat):Stp:=if (k:Int).tmod 2=0/\0<p.rules.l.length then⟨rkI p k,[(p.rules.l.getD (rkI p k).toNat default).head]⟩ else⟨-1,bF w k n⟩
theorem zU (R:Res)(p:Prg)(w:Nat->Int)(n k:Nat)(hn:0<n/\n<=24)(hk:k<2^32)(hl:p.rules.l.length<1000000)(g:R.σ):Does Tryd.prog R 47 [au p,.ow true 0 n 1,.int .u32 k] [.cells false (n*1) (cp w)] g (.ret (a9 (ak (dv p w n k)))) [.cells false (n*1) (cp w)] g:=by
 unfold dv
 by_cases hc:(k:Int).tmod 2=0/\0<p.rules.l.length
 ·rw[if_pos hc]
  exact zR R p w n k hn hk hl hc g
 ·rw[if_neg hc]
  exact zT R p w n k hn hk hl hc g
theorem sH {p:Prg}{w:Nat->Int}{n k:Nat}(hn:0<n/\n<=24):(dv p w n k).atoms.length<=24:=by
 unfold dv
 split
 ·show 1<=24
  omega
 ·have:=sG (w:=w) (k:=k) (i:=n)
  show(bF w k n).length<=24
  omega
def sound (w v:Nat->Int):Prop:=∀a,w a≠3->w a=v a
theorem sI {w v:Nat->Int}{l:Lit}(h:sound w v)(hl:bj w l≠3):bj v l=bj w l:=ka (fun a ha=>(h a ha).symm) hl
theorem zV {w v:Nat->Int}{r:Rule}(h:sound w v)(hb:cx w r=true):cx v r=true:=lV (fun a ha=>(h a ha).symm) hb
theorem sJ {p:Prg}{w v:Nat->Int}(hp:ce p)(hr:∀r,r∈p.rules.l->aI r)(hf:Fin2 p v)(h:sound w v){s:Step}(hk:okS p w s=true):sound (newS p w s) v/\∀a,a∈s.atoms.l->0<=a/\a<p.atoms/\newS p w s a.toNat=(if s.rule = -1 then 1 else 2):=by
 unfold okS at hk
 unfold newS
 by_cases hs:s.rule = -1
 ·rw[if_pos hs] at hk
  rw[if_pos hs]
  unfold dF at hk
  rw[Bool.and_eq_true] at hk
  obtain⟨hc,hn⟩:=hk
  unfold db at hc
  rw[Bool.and_eq_true,List.all_eq_true] at hc
  have hp':1<=p.atoms/\p.atoms<=24:=hp
  have hin:=zE (p:=p) (n:=p.atoms.toNat) (f:=w) (l:=s.atoms.l) omg (fun i hi=>hc.2 i (List.mem_range.2 hi))
  have hSL:=sF (l:=s.atoms.l) (fun a h=>(hin a h).1)
  have hopen:∀a,(aJ s.atoms.l).testBit a=true->a<p.atoms.toNat/\w a=3:=fun a ha=>by
   have:=hin a ((hSL a).1 ha)
   rw[Int.toNat_natCast] at this
   exact⟨omg,this.2.2⟩
  have hblk:∀r,r∈p.rules.l->(aJ s.atoms.l).testBit r.head.toNat=true->∃l,l∈r.body.l/\(bj w l=1∨(l.neg=false/\(aJ s.atoms.l).testBit l.atom.toNat=true)):=fun r hrm hra=>by
   have hrk:=(hr r hrm).2
   unfold dE at hn
   rw[Bool.not_eq_true',List.any_eq_false] at hn
   have h1:=hn r.head.toNat (Tb.mem_memN.2 ⟨omg,hra⟩)
   have h1:(ofH p.rules.l ((r.head.toNat:Nat):Int)).any (aZ w (aJ s.atoms.l))=false:=by simpa using h1
   have h2:=List.any_eq_false.1 h1 r (oo.2 ⟨hrm,omg⟩)
   unfold aZ at h2
   have h2:r.body.l.any (fG w (aJ s.atoms.l))=true:=by simpa using h2
   obtain⟨l,hl,h3⟩:=List.any_eq_true.1 h2
   refine⟨l,hl,?_⟩
   unfold fG at h3
   rw[Bool.or_eq_true,beq_iff_eq,Bool.and_eq_true,Bool.not_eq_true'] at h3
   exact h3
  have hno2:∀k a,(∃rk:Nat->Nat,∃N,(∀a,v a=2->rk a<N/\∃r,r∈p.rules.l/\r.head.toNat=a/\cx v r=true/\∀l,l∈r.body.l->l.neg=false->rk l.atom.toNat<rk a)/\rk a<k/\(aJ s.atoms.l).testBit a=true/\v a=2)->False:=by
   intro k
   induction k with
   |zero=>rintro a ⟨rk,N,_,h0,_⟩;omega
   |succ k ih=>
    rintro a ⟨rk,N,hrk,hlt,hS,h2⟩
    obtain⟨_,r,b1,b2,b3,b4⟩:=hrk a h2
    obtain⟨l,hl,h5⟩:=hblk r b1 (by rw[b2];exact hS)
    have h6:=iN.1 b3 l hl
    rcases h5 with h5|⟨hneg,hmem⟩
    ·have:=sI h (l:=l) (by rw[h5];decide)
     rw[h5,h6] at this
     cases this
    ·have h7:=(ox hf.dom).1 h6
     rw[hneg] at h7
     have h7:v l.atom.toNat=2:=h7
     exact ih l.atom.toNat ⟨rk,N,hrk,by have:=b4 l hl hneg;omega,hmem,h7⟩
  have hall:∀a,(aJ s.atoms.l).testBit a=true->v a=1:=fun a ha=>by
   have hno:∀a,(aJ s.atoms.l).testBit a=true->v a≠2:=fun a ha h2=>by
    obtain⟨rk,N,hrk⟩:=hf.yes
    exact hno2 (rk a+1) a ⟨rk,N,hrk,Nat.lt_succ_self _,ha,h2⟩
   rcases hf.dom a with e|e|e
   ·exact e
   ·exact absurd e (hno a ha)
   ·exfalso
    have hu:=hf.unf (fun j=>(aJ s.atoms.l).testBit j&&v j==3) (fun r hrm hm=>by
     rw[Bool.and_eq_true,beq_iff_eq] at hm
     obtain⟨l,hl,h5⟩:=hblk r hrm hm.1
     rw[List.any_eq_true]
     refine⟨l,hl,?_⟩
     unfold blk
     rcases h5 with h5|⟨hneg,hmem⟩
     ·rw[sI h (by rw[h5];decide),h5];rfl
     ·rw[hneg]
      dsimp only
      rw[hmem]
      rcases hf.dom l.atom.toNat with e|e|e
      ·have:bj v l=1:=(zo hf.dom).2 (by rw[hneg];exact e)
       rw[this];rfl
      ·exact absurd e (hno _ hmem)
      ·rw[e];simp) (fun j hj=>by
     rw[Bool.and_eq_true,beq_iff_eq] at hj
     exact⟨(hopen j hj.1).1,hj.2⟩) a
    rw[ha,e] at hu
    cases hu
  refine⟨fun a ha=>?_,fun a ha=>?_⟩
  ·unfold bW at ha ⊢
   by_cases hb:(aJ s.atoms.l).testBit a=true
   ·rw[if_pos hb];exact(hall a hb).symm
   ·rw[if_neg hb] at ha ⊢;exact h a ha
  ·have:=hin a ha
   refine⟨this.1,omg,?_⟩
   unfold bW
   rw[if_pos ((hSL _).2 (by rw[show((a.toNat:Nat):Int)=a by omega];exact ha)),if_pos hs]
 ·rw[if_neg hs] at hk
  rw[if_neg hs]
  unfold cR at hk
  simp only[Bool.and_eq_true,beq_iff_eq,decide_eq_true_eq] at hk
  obtain⟨k1,k2,k3,k4,k5⟩:=hk
  have hm:=fF (l:=p.rules.l) (i:=s.rule.toNat) omg
  have hrk:=(hr _ hm).2
  have h2:=hf.fire _ hm (zV h k5)
  have hrng:=hf.rng _ (show v (p.rules.l.getD s.rule.toNat default).head.toNat≠3 by rw[h2];decide)
  obtain⟨a0,hl⟩:∃a,s.atoms.l=[a]:=List.length_eq_one_iff.1 k2
  rw[hl] at k3
  have k3:a0=(p.rules.l.getD s.rule.toNat default).head:=k3
  refine⟨fun a ha=>?_,fun a ha=>?_⟩
  ·unfold eF cy at ha ⊢
   by_cases he:a=(p.rules.l.getD s.rule.toNat default).head.toNat
   ·rw[if_pos he,he];exact h2.symm
   ·rw[if_neg he] at ha ⊢;exact h a ha
  ·rw[hl,List.mem_singleton] at ha
   subst ha
   refine⟨omg,omg,?_⟩
   unfold eF cy
   rw[if_pos (by rw[k3]),if_neg hs]
theorem oz:∀(hp:List AObj) (i:Nat),ag (hp.map fun _=>AObj.dead) i=.dead
 |[],i=>by cases i <;> rfl
 |_::_,0=>rfl
 |_::r,i+1=>oz r i
theorem zW {P:Program}{R:Res}{f:FuncId}{args args':List AV}{hp:List AObj}{g:R.σ}{oc:Oc}(h:Does P R f args' [] g oc [] g)(hn:args'.length=args.length)(ht:To R 0 ⟨bU 0 args,hp,g⟩ ⟨bU 0 args',[],g⟩):Does P R f args hp g oc (hp.map fun _=>.dead) g:=by
 refine⟨fun FM Z w vs okw hvs=>?_⟩
 have hfr:cu FM Z (bU 0 args) (fun t=>vs.getD t undef):=fun t=>by
  rw[ii]
  simp only[Nat.zero_le,if_true,Nat.sub_zero]
  rcases Nat.lt_or_ge t args.length with hlt|hge
  ·exact hvs.2 t hlt
  ·rw[ij _ _ hge];trivial
 obtain⟨FM',Z',a1,a2,a3,a4,a5,a6,a7⟩:=ht [] FM Z w _ rfl (fun i p hi=>by simp at hi) okw hfr
 have hd':bJ FM' Z' args' vs:=⟨by rw[hvs.1,hn],fun i hi=>by
  have:=a2 i
  rw[ii] at this
  simpa using this⟩
 refine(h.h FM' Z' w vs a1 hd').mono (fun e w' ⟨FM2,Z2,b1,b2,b3⟩=>?_)
 have hr0:Z'=[]:=List.length_eq_zero_iff.1 a1.rel.len
 have hr2:Z2=[]:=List.length_eq_zero_iff.1 b2.rel.len
 subst hr0
 subst hr2
 have hsz:=b3.ext.size
 have nob:∀b,¬InB [] b:=fun b ⟨p,hp,_⟩=>by cases hp
 refine⟨FM2,Z,?_,⟨⟨b2.rel.fm,by rw[List.length_map];exact okw.rel.len,fun i p hi=>?_,fun i j p q hi hj hl _ _=>?_⟩,b2.j,fun b hb=>?_⟩,⟨fun b o hb=>b3.ext.fm b o (a4 b o hb),fun b o hb=>?_,fun b hb=>.inl hb,fun b c1 c2 c3=>?_,hsz,b3.ext.os,b3.ext.tape,b3.ext.output⟩,fun b hb=>.inl hb,Aq _⟩
 ·cases oc with
  |ret x=>obtain⟨v,e1,e2⟩:=b1;exact⟨v,e1,As (fun _ _ h=>h) _ (fun i p hi=>by simp at hi) e2⟩
  |pan x=>obtain⟨v,e1,e2⟩:=b1;exact⟨v,e1,As (fun _ _ h=>h) _ (fun i p hi=>by simp at hi) e2⟩
 ·refine⟨fun hre=>Nat.lt_of_lt_of_le ((okw.rel.obj i p hi).1 hre) hsz,?_⟩
  rw[oz]
  trivial
 ·rw[oz] at hl
  cases hl
 ·have:=okw.bd b hb
  exact⟨Nat.lt_of_lt_of_le this.1 hsz,this.2⟩
 ·rcases b3.ext.grow b o hb with h1|h1|h1|h1
  ·rcases a5 b o h1 with h2|h2
   ·exact .inl h2
   ·exact .inr (.inr (.inl h2))
  ·exact .inr (.inl h1)
  ·exact absurd h1 (nob b)
  ·exact .inr (.inr (.inr h1))
 ·exact b3.ext.keep b c1 (nob b) c3
theorem sK {P:Program}{R:Res}{o:Oper}{ev:Operand->AV}{hp:List AObj}{g:R.σ}{t es:Nat}{x:Operand}{ob:Nat}{hi mx:Operand}{k1 k2:IntKind}
  (ho:o.op=.slice t x none (some hi) (some mx)) (hx:ev x=.ow true ob 0 es) (hh:ev hi=.int k1 0) (hm:ev mx=.int k2 0) (hes1:kT P t es=true) :
  OpOk P R o ev hp g (.fz .nil 0 0 (fun _ _=>.any)) hp g:=by
 obtain⟨ei,hei⟩:=qn hes1
 obtain⟨e,ti,hok,hd,hee,hse⟩:=g4 hei
 refine⟨fun FM Z w evc okw hop=>?_⟩
 have hdx:=hop x (by simp[ho,Op.operands])
 have hdh:=hop hi (by simp[ho,Op.operands])
 have hdm:=hop mx (by simp[ho,Op.operands])
 rw[hx] at hdx
 rw[hh] at hdh
 rw[hm] at hdm
 have h1:evc hi=.int k1 0:=hdh
 have h2:evc mx=.int k2 0:=hdm
 obtain⟨a,hv,ha⟩:=hdx.1 rfl
 have ha:=ha rfl
 subst ha
 have hsz:=cN (P:=P) hee w
 have hu:=cU (P:=P) hok w
 rw[hd] at hu
 refine⟨.value (.slice none 0 0),w,FM,Z,_,?_,rfl,?_,okw,An _ _ _ _ _⟩
 ·have hbd:(Instr.sliceBounds true 0 0 none (some (.int k1 0)) (some (.int k2 0))).run P w=.ok (0,0,0) w:=by
   have h:=iY (P:=P) (isSlice:=true) (len:=0) (cap:=0) (lo:=none) (hi:=some (.int k1 0)) (mx:=some (.int k2 0)) (lo':=none) (hi':=some 0) (mx':=some 0) (.inl ⟨rfl,rfl⟩) (.inr ⟨k1,0,rfl,rfl⟩) (.inr ⟨k2,0,rfl,rfl⟩) (fun m hm=>by cases hm;simp) (fun m hm=>by cases hm;simp[bM]) (fun l hl=>by cases hl) (fun h=>by cases h) w
   simpa[bL,bH,bM] using h
  simp[execOp,ho,hv,h1,h2,Instr.sliceAt,Instr.slice,hu,hbd,hsz]
 ·exact⟨fun _=>⟨rfl,none,0,rfl,rfl,rfl⟩,fun h=>by cases h⟩
theorem zX (R:Res)[Tab LT R](p:Prg)(l:List Stp)(hb:aH p=true)(hll:l.length<1000000)(hal:∀s,s∈l->s.atoms.length<1000000)(g:R.σ):Does Tryd.prog R 23 [au p,.ow true 0 l.length 2] [.cells false (l.length*2) (aP l)] g (.ret (.tup 2 (nth [.int .i64 (if 0<=cK p (l.map ak) (fun _=>3) 0 then cK p (l.map ak) (fun _=>3) 0 else 0),.int .i64 (if 0<=cK p (l.map ak) (fun _=>3) 0 then 7 else 0)]))) [.dead] g:=by
 refine zW (args':=[au p,aC (bo l)]) (zD R p (bo l) hb (by rw[jW];exact hll) (fun i=>?_) g) rfl ?_
 ·rcases Nat.lt_or_ge i l.length with hi|hi
  ·rw[nY hi]
   exact hal _ (bR l default hi)
  ·rw[List.getD_eq_getElem?_getD,List.getElem?_eq_none (by rw[jW];exact hi)]
   exact(by decide:(default:Step).atoms.l.length<1000000)
 ·exact fY 0 [(0,au p),(1,aC (bo l))] (Nat.le_refl _) (Nat.zero_le _) (fun i hi=>absurd hi (Nat.not_lt_zero i)) ⟨Am ⟨⟨trivial,trivial⟩,trivial⟩,yH rfl (Nat.zero_le _),trivial⟩
def kb (x:KL Int):AV:=.fz x.k 1 x.l.length (fun i _=>.int .u32 (x.l.getD i 0))
def QU (x:KL Int):Prop:=∀a,a∈x.l->0<=a/\a<4294967296
def bT (p:Prg)(n:Nat)(b:List Int):Nat->List Stp × (Nat->Int)
 |0=>([],fun _=>3)
 |i+1=>if okS p (bT p n b i).2 (ak (dv p (bT p n b i).2 n (b.getD i 0).toNat)) then((bT p n b i).1++[dv p (bT p n b i).2 n (b.getD i 0).toNat],newS p (bT p n b i).2 (ak (dv p (bT p n b i).2 n (b.getD i 0).toNat))) else bT p n b i
theorem zY {p:Prg}{v:Nat->Int}{l:List Step}{s:Step}:cb p v (l++[s])=newS p (cb p v l) s:=by
 unfold cb
 rw[List.foldl_append]
 rfl
theorem oA {p:Prg}{s:Step}:∀{l:List Step} {v:Nat->Int} {i:Nat},cK p l v i = -1->cK p (l++[s]) v i=if okS p (cb p v l) s then -1 else((i+l.length:Nat):Int)
 |[],v,i,_=>rfl
 |t::l,v,i,h=>by
  have h:(if okS p v t then cK p l (newS p v t) (i+1) else(i:Int)) = -1:=h
  show(if okS p v t then cK p (l++[s]) (newS p v t) (i+1) else(i:Int))=if okS p (cb p (newS p v t) l) s then -1 else((i+(l.length+1):Nat):Int)
  by_cases hk:okS p v t=true
  ·rw[if_pos hk] at h ⊢
   rw[oA h]
   rw[show i+1+l.length=i+(l.length+1) by omega]
  ·rw[if_neg hk] at h
   omega
structure AnyOk (p:Prg)(n i:Nat)(v:Nat->Int)(x:List Stp × (Nat->Int)):Prop where
 wr:cK p (x.1.map ak) (fun _=>3) 0 = -1
 run:cb p (fun _=>3) (x.1.map ak)=x.2
 snd:sound x.2 v
 len:x.1.length<=i
 at24:∀s,s∈x.1->s.atoms.length<=24
theorem sL {p:Prg}{n:Nat}{b:List Int}{v:Nat->Int}(hp:ce p)(hr:∀r,r∈p.rules.l->aI r)(hf:Fin2 p v)(hn:0<n/\n<=24):∀i,AnyOk p n i v (bT p n b i)
 |0=>⟨rfl,rfl,fun _ h=>absurd rfl h,Nat.le_refl _,fun s hs=>by cases hs⟩
 |i+1=>by
  have ih:=sL (b:=b) hp hr hf hn i
  show AnyOk p n (i+1) v (if okS p (bT p n b i).2 (ak (dv p (bT p n b i).2 n (b.getD i 0).toNat)) then _ else _)
  by_cases hk:okS p (bT p n b i).2 (ak (dv p (bT p n b i).2 n (b.getD i 0).toNat))=true
  ·rw[if_pos hk]
   refine⟨?_,?_,(sJ hp hr hf ih.snd hk).1,?_,fun s hs=>?_⟩
   ·show cK p (((bT p n b i).1++[_]).map ak) _ _ = -1
    rw[List.map_append]
    show cK p ((bT p n b i).1.map ak++[ak _]) _ _ = -1
    rw[oA ih.wr,ih.run,if_pos hk]
   ·show cb p _ (((bT p n b i).1++[_]).map ak)=_
    rw[List.map_append]
    show cb p _ ((bT p n b i).1.map ak++[ak _])=_
    rw[zY,ih.run]
   ·show((bT p n b i).1++[_]).length<=i+1
    rw[List.length_append,List.length_singleton]
    have:=ih.len
    omega
   ·rcases List.mem_append.1 hs with hs|hs
    ·exact ih.at24 s hs
    ·rw[List.mem_singleton.1 hs]
     exact sH hn
  ·rw[if_neg hk]
   exact⟨ih.wr,ih.run,ih.snd,Nat.le_succ_of_le ih.len,ih.at24⟩
theorem sM {P:Program}{R:Res}{f n:Nat}{rd:Rd}{body:Code}{p1 p2:List Nat}{Q1 Q2:AEx->St R.σ->Prop}{s:St R.σ}(hk:Wp P R f n rd body p1 Q1 s)(h1:p1=p2)(h2:Q1=Q2):Wp P R f n rd body p2 Q2 s:=by
 subst h1 h2
 exact hk
theorem zZ {q A C:Prop}(h1:q->C->A)(h2:¬q->C->A)(hc:C):A:=by
 by_cases h:q
 ·exact h1 h hc
 ·exact h2 h hc
theorem z1 {p:Prg}{w:Nat->Int}{s:Stp}(h0:∀a,a∈s.atoms->0<=a)(hk:okS p w (ak s)=true):newS p w (ak s)=dI w (bx s) s.atoms:=by
 funext j
 unfold newS dI bx
 by_cases hs:s.rule = -1
 ·rw[if_pos (show(ak s).rule = -1 from hs),if_pos hs]
  show(if (aJ s.atoms).testBit j then(1:Int) else w j)=_
  have h:=sF (l:=s.atoms) h0 j
  by_cases hj:(aJ s.atoms).testBit j=true
  ·rw[if_pos hj,if_pos (h.1 hj)]
  ·rw[if_neg hj,if_neg (fun x=>hj (h.2 x))]
 ·rw[if_neg (show ¬(ak s).rule = -1 from hs),if_neg hs]
  unfold okS at hk
  rw[if_neg (show ¬(ak s).rule = -1 from hs)] at hk
  unfold cR at hk
  simp only[Bool.and_eq_true,beq_iff_eq] at hk
  obtain⟨_,h1,h2,_⟩:=hk
  have h1:s.atoms.length=1:=h1
  obtain⟨a,ha⟩:∃a,s.atoms=[a]:=List.length_eq_one_iff.1 h1
  have h2:s.atoms.getD 0 0=(p.rules.l.getD s.rule.toNat default).head:=h2
  show(if j=(p.rules.l.getD s.rule.toNat default).head.toNat then(2:Int) else w j)=_
  have h3:=h0 a (by rw[ha];exact List.mem_singleton.2 rfl)
  rw[<-h2,ha]
  show(if j=a.toNat then(2:Int) else w j)=if (j:Int)∈[a] then 2 else w j
  by_cases hj:(j:Int)=a
  ·rw[if_pos omg,if_pos (List.mem_singleton.2 hj)]
  ·rw[if_neg omg,if_neg (fun x=>hj (List.mem_singleton.1 x))]
theorem z2 {P:Program}{R:Res}{o:Oper}{ev:Operand->AV}{hp:List AObj}{g:R.σ}{k:Call}{x y:Operand}{i:IntKind}{a b:Int}
  (ho:o.op=.call k) (hk:k.callee=.builtin .min) (ha:k.args=#[x,y]) (hx:ev x=.int i a) (hy:ev y=.int i b) :
  OpOk P R o ev hp g (.int i (if b<a then b else a)) hp g:=by
 refine⟨fun FM Z w evc okw hop=>?_⟩
 have hdx:=hop x (by simp[ho,Op.operands,Call.operands,ha])
 have hdy:=hop y (by simp[ho,Op.operands,Call.operands,ha])
 rw[hx] at hdx
 rw[hy] at hdy
 have h1:evc x=.int i a:=hdx
 have h2:evc y=.int i b:=hdy
 refine⟨.value (.int i (if b<a then b else a)),w,FM,Z,_,?_,rfl,rfl,okw,An _ _ _ _ _⟩
 simp[execOp,ho,resolve,hk,ha,invoke,builtin,h1,h2,Builtin.min_,Builtin.min2]
theorem z3 (R:Res)[Tab LT R](p:Prg)(b:KL Int)(hq:QU b)(g:R.σ):Does Tryd.prog R 11 [au p,kb b] [] g (.ret (.bool true)) [] g:=by
 have hroom:aB=140737488355328:=rfl
 by_cases hfi:eo p=true/\aH p=true
 rotate_left
 ·have hF:∀(R:Res) (hp:List AObj) (g:R.σ),Does Tryd.prog R 35 [au p] hp g (.ret (.bool false)) hp g:=fun R hp g=>by
   have h:=qW R p hp g
   rw[show(eo p&&aH p)=false by
    cases h1:eo p <;> cases h2:aH p <;> first|rfl|exact absurd ⟨h1,h2⟩ hfi] at h
   exact h
  refine spW (nt:=115) (rs:=[.tmp 4]) (k0:=0) ?_
  refine vcR [[1,0,1,1]] (lkL [(0,[1,2]),(1,[1,2,19]),(2,[4])]) (lkL [(1,[(1,ROrc.pcall (AV.bool false))]),(2,[(0,ROrc.kcall (AV.bool true))])]) (fun Q=>(fun (u1:List AObj)=>2<=2/\(∀(hp:List AObj) (g:R.σ),true=true/\Does Tryd.prog R 35 [au p] hp g (ret (AV.bool false)) hp g)/\(true=true->(true=true/\Does Tryd.prog R 15 [] u1 g (ret (AV.bool true)) u1 g)/\Q AEx.ret (St.mk [(4,AV.bool true)] u1 g))/\(true=false->WpC Tryd.prog R 115 0 11 [1,0,1,1] Q [Kont.seq [1,1]] (St.mk [(1,fz b.2 1 (List.length b.l) fun i x=>int IntKind.u32 (List.getD b.l i 0)),(2,ref 0 0),(19,AV.bool true)] u1 g))) ([cells false 2 (nth [int i64 p.atoms,ae p.rules])])) ⟨omg,(fun _ _=>⟨rfl,(hF _ _ _)⟩),fun _=>⟨⟨rfl,(doT (T:=LT) [] 1 (fun R _ g=>sA R g))⟩,?_⟩,fun h=>(nomatch h)⟩
  refine(av (bG _ _ rfl trivial trivial rfl) (Af _))
 obtain⟨hsm,hb⟩:=hfi
 obtain⟨hl,hr,hp,hh,hx⟩:=fI hb
 have hp':1<=p.atoms/\p.atoms<=24:=hp
 obtain⟨n,hn⟩:∃n,p.atoms.toNat=n:=⟨_,rfl⟩
 have hpa:p.atoms=n:=by omega
 have hfin:=zr hp hr hh
 have hF:∀(R:Res) (hp:List AObj) (g:R.σ),Does Tryd.prog R 35 [au p] hp g (.ret (.bool true)) hp g:=fun R hp g=>by
  have h:=qW R p hp g
  rw[hsm,hb] at h
  exact h
 have hD:=fun (R:Res) [Tab LT R] (g:R.σ)=>rH R p hb g
 have hVl:(de p (al p).2).l.length=n:=by unfold de;simp[hn]
 have hVg:∀j,j<n->(de p (al p).2).l.getD j 0=(al p).2 j:=fun j hj=>by
  unfold de
  rw[List.getD_eq_getElem?_getD,List.getElem?_map,List.getElem?_range omg]
  rfl
 obtain⟨V,hV⟩:∃V,de p (al p).2=V:=⟨_,rfl⟩
 obtain⟨v,hv⟩:∃v,(al p).2=v:=⟨_,rfl⟩
 simp only[hV] at hD
 rw[hV] at hVl
 simp only[hV] at hVg
 simp only[hv] at hVg
 rw[hv] at hfin
 have hFo:∀(R:Res) (hp:List AObj) (g:R.σ),Does Tryd.prog R 36 [au p,ah V] hp g (.ret (.bool true)) hp g:=fun R hp g=>zL R p V omg (fun x hx=>by
  obtain⟨j,hj,rfl⟩:=List.getElem_of_mem hx
  have e:V.l[j]=V.l.getD j 0:=by rw[List.getD_eq_getElem?_getD,List.getElem?_eq_getElem hj];rfl
  rw[e,hVg j omg]
  rcases hfin.dom j with e|e|e <;> omega) hp g
 obtain⟨m3,hm3⟩:∃m:KL Int,m=⟨[3],.exa⟩:=⟨_,rfl⟩
 have hR:∀(R:Res) (hp:List AObj) (g:R.σ),Does Tryd.prog R 46 [ah m3,.int .i64 p.atoms] hp g (.ret (.sl hp.length 0 n n true 1)) (hp++[.cells false (n*1) (eK 3 n)]) g:=fun R hp g=>by rw[hpa];exact zG R 3 m3 n omg omg hm3 hp g
 refine spW (nt:=115) (rs:=[.tmp 4]) (k0:=0) ?_
 obtain⟨M,hM⟩:∃M:Nat,M=min b.l.length 20:=⟨_,rfl⟩
 have hM2:(if (20:Int)<(b.l.length:Int) then(20:Int) else(b.l.length:Int))=(M:Int):=by
  by_cases h:(20:Int)<b.l.length
  ·rw[if_pos h];omega
  ·rw[if_neg h];omega
 refine vcR [[1,0,1,0],[1,1,1,0,1,0]] (lkL [(0,[1,2]),(1,[1,2,19]),(3,[1,2,6,7]),(4,[1,2,6,34]),(6,[1,2,6,8]),(7,[1,2,6,8,9]),(8,[2,6,8,9,43,44,45])]) (lkL [(1,[(1,ROrc.pcall (AV.bool true))]),(3,[(1,ROrc.kcall (tup 3 (nth [fz Fz.auto 2 (List.length (bo (al p).fst).l) fun (i:Nat)=>em (List.getD (bo (al p).fst).l i default),fz V.2 1 (List.length V.l) fun (i x:Nat)=>af V.l i,int i64 0])))]),(4,[(5,ROrc.pcall (AV.bool true))]),(6,[(0,ROrc.kop (ah m3)),(3,ROrc.call (sl (List.length [cells false 2 (nth [int i64 p.atoms,ae p.rules])]) 0 n n true 1) ([cells false 2 (nth [int i64 p.atoms,ae p.rules])]++[cells false (n*1) (eK 3 n)]) g)]),(8,[(3,ROrc.kop (int i64 (↑M:Int)))])]) (fun Q=>(fun (u1:AObj)=>(fun (u2:AV)=>(fun (u3:AV)=>(fun (u4:List AObj)=>(fun (u5:AV)=>2<=2/\(∀(hp:List AObj) (g:R.σ),true=true/\Does Tryd.prog R 35 [au p] hp g (ret (AV.bool true)) hp g)/\(false=true->WpC Tryd.prog R 115 0 11 [1,0,1,0] Q [Kont.seq [1,1]] (St.mk [(1,u2),(2,ref 0 0),(19,AV.bool false)] [u1] g))/\(false=false->2<=2/\(true=true/\Does Tryd.prog R 17 [au p] [u1] g (ret (tup 3 (nth [fz Fz.auto 2 (List.length (bo (al p).fst).l) fun i=>em (List.getD (bo (al p).fst).l i default),u3,int i64 0]))) [u1] g)/\(true=true->2<=2)/\(true=true->∀(hp:List AObj) (g:R.σ),true=true/\Does Tryd.prog R 36 [au p,u3] hp g (ret (AV.bool true)) hp g)/\(false=true->WpC Tryd.prog R 115 0 11 [1,1,1,0,1,0] Q [Kont.seq [1,1,1,1]] (St.mk [(1,u2),(2,ref 0 0),(6,u3),(34,AV.bool false)] [u1] g))/\(false=false->OpOk Tryd.prog R (Oper.mk (some 35) (Op.buildSlice 30 1 #[(0,Operand.const (Value.int i64 3))]) 30 "outright.go:83" #[] none) (evO [] [(1,u2),(2,ref 0 0),(6,u3),(34,AV.bool false)] []) [u1] g u5 [u1] g/\1<=2/\(true=true/\Does Tryd.prog R 46 [u5,int i64 p.atoms] [u1] g (ret (sl 1 0 n n true 1)) u4 g)/\OpOk Tryd.prog R (Oper.mk (some 42) (Op.call (Call.mk (Callee.builtin Builtin.min) #[Operand.tmp 41,Operand.const (Value.int i64 20)] #[3,3])) 3 "outright.go:85" #[Edge.mk 2 Ground.data] none) (evO [Row.mk (some 41) none (int i64 (↑(List.length b.l):Int)) false (some []) [],Row.mk (some 40) none u2 false (some []) [],Row.mk (some 39) none u2 false (some []) []] [(1,u2),(2,ref 0 0),(6,u3),(8,sl 1 0 n n true 1),(9,fz Fz.nil 0 0 fun x x_1=>any)] []) u4 g (int i64 (↑M:Int)) u4 g/\(0<=(↑M:Int)/\(↑M:Int)<=(↑(List.length b.l):Int))/\WpC Tryd.prog R 115 0 11 [1,1,1,1,1,1,0,1,0] Q [Kont.blk 0,Kont.seq [1,1,1,1,1,1,1]] (St.mk [(2,ref 0 0),(6,u3),(8,sl 1 0 n n true 1),(9,fz Fz.nil 0 0 fun x x_1=>any),(43,fz (cL b.2) 1 (M-0) fun i j=>int IntKind.u32 (List.getD b.l (0+i) 0)),(44,int i64 (↑(M-0):Int)),(45,int i64 0)] u4 g)))) (fz m3.2 1 (List.length m3.l) fun i x=>af m3.l i)) ([u1,cells false (n*1) fun a=>int i64 (if a<n then 3 else 0)])) (fz V.2 1 (List.length V.l) fun i x=>af V.l i)) (fz b.2 1 (List.length b.l) fun i x=>int IntKind.u32 (List.getD b.l i 0))) (cells false 2 (nth [int i64 p.atoms,ae p.rules]))) ⟨omg,(fun _ _=>⟨rfl,(hF _ _ _)⟩),fun h=>(nomatch h),fun _=>⟨omg,⟨rfl,(doT (T:=LT) [] 1 (fun R _ g=>hD R g))⟩,omg,(fun hgd=>(fun _ _=>⟨rfl,(hFo _ _ _)⟩)),fun h=>(nomatch h),fun _=>⟨?_,omg,⟨rfl,(hR _ _ _)⟩,?_,omg,?_⟩⟩⟩
 ·subst hm3;exact b8 (n:=1) (es:=1) krf (by exact⟨trivial,trivial⟩) rfl rfl (fun i hi j hj=>match i,hi,j,hj with|0,_,0,_=>krf ) (fun i hi j hj=>match i,hi,j,hj with|0,_,0,_=>trivial )
 ·rw[<-hM2]
  exact z2 rfl rfl rfl rfl rfl
 have hXo:=fun i=>sL (b:=b.l) hp hr hfin (n:=n) omg i
 have hXs:∀i,bT p n b.l (i+1)=if okS p (bT p n b.l i).2 (ak (dv p (bT p n b.l i).2 n (b.l.getD i 0).toNat)) then((bT p n b.l i).1++[dv p (bT p n b.l i).2 n (b.l.getD i 0).toNat],newS p (bT p n b.l i).2 (ak (dv p (bT p n b.l i).2 n (b.l.getD i 0).toNat))) else bT p n b.l i:=fun i=>rfl
 have hX0:bT p n b.l 0=([],fun _=>3):=rfl
 obtain⟨X,hX⟩:∃X,bT p n b.l=X:=⟨_,rfl⟩
 rw[hX] at hX0
 simp only[hX] at hXo hXs
 have hkn:∀i,0<=b.l.getD i 0/\b.l.getD i 0<4294967296:=fun i=>by
  rcases Nat.lt_or_ge i b.l.length with h|h
  ·exact hq _ (bR b.l 0 h)
  ·rw[List.getD_eq_getElem?_getD,List.getElem?_eq_none h]
   exact⟨dcd,dcd⟩
 refine cm (toL (s':=⟨[(2,.ref 0 0),(6,ah V),(8,.ow true 1 n 1),(9,.fz .nil 0 0 (fun _ _=>.any)),(43,.fz (cL b.k) 1 M (fun i _=>.int .u32 (b.l.getD i 0))),(44,.int .i64 M),(45,.int .i64 0)],[.cells false 2 (nth [.int .i64 p.atoms,ae p.rules]),.cells false (n*1) (cp (fun _=>3))],g⟩) (h1:=?_) (h2:=?_)) ?_
 ·exact⟨Af _,Af _,Ao omg,Af _,Al rfl (fun i j hi hj=>by show AV.int .u32 (b.l.getD (0+i) 0)=_;rw[Nat.zero_add]),Af _,Af _,trivial⟩
 ·exact⟨Ai _,⟨rfl,Nat.le_refl _,fun j hj=>Ag (by
   show AV.int .i64 (if j<n then 3 else 0)=AV.int .i64 3
   rw[if_pos omg])⟩,trivial⟩
 refine(bl krf (fun (x:Nat × Nat × List Stp × (Nat->Int))=>⟨[(2,ref 0 0),(6,fz V.2 1 (V.l.length) fun (i x:Nat)=>af V.l i),(8,ow true 1 n 1),(9,.ow true 2 x.2.1 2),(43,fz (cL b.k) 1 M fun (i x:Nat)=>int IntKind.u32 (b.l.getD i 0)),(44,int i64 (M:Int)),(45,.int .i64 x.1)],[.cells false 2 (nth [.int .i64 p.atoms,ae p.rules]),.cells false (n*1) (cp x.2.2.2),.cells false (x.2.1*2) (aP x.2.2.1)],g⟩) (fun (x:Nat × Nat × List Stp × (Nat->Int))=>(x.1<=M/\X x.1=x.2.2/\x.2.1=x.2.2.1.length)) (fun (x:Nat × Nat × List Stp × (Nat->Int))=>(M-x.1)) (0,0,[],fun _=>3) (To.trans (pQ (fun _=>.any)) (toL (h1:=⟨Af _,Af _,Af _,Le.nil_ow,Af _,Af _,(Ag krf),trivial⟩) (h2:=⟨Ah,Ah,⟨rfl,Nat.le_refl _,fun j hj=>absurd hj (Nat.not_lt_zero j)⟩,trivial⟩))) ?_ (fun x hi=>?_))
 ·exact⟨Nat.zero_le _,hX0,rfl⟩
 ·obtain⟨i,m,l,w⟩:=x
  obtain⟨hiM,hXi,hml⟩:=hi
  simp only at hiM hXi hml
  rcases Nat.lt_or_ge i M with hlt|hge
  ·have hxo:=hXo i
   have hxs:=hXs i
   rw[hXi] at hxo hxs
   obtain⟨kk,hkk⟩:∃kk:Nat,b.l.getD i 0=kk:=⟨(b.l.getD i 0).toNat,by have:=hkn i;omega⟩
   have hkl:kk<2^32:=by have:=hkn i;omega
   have hke:(b.l.getD i 0).toNat=kk:=by omega
   have hlen:l.length<=i:=hxo.len
   have h24:(dv p w n kk).atoms.length<=24:=sH omg
   have hS:=fun (R:Res) (g:R.σ)=>zU R p w n kk omg hkl omg g
   rw[hke] at hxs
   simp only at hxs
   have hwa:=oA (s:=ak (dv p w n kk)) hxo.wr
   have hru:=hxo.run
   simp only at hru hwa
   rw[hru,Nat.zero_add,List.length_map] at hwa
   have hso:=fun hk=>sJ hp hr hfin hxo.snd (s:=ak (dv p w n kk)) hk
   have hsl:=fun s hs=>hxo.at24 s hs
   simp only at hso hsl
   obtain⟨s,hs⟩:∃s,dv p w n kk=s:=⟨_,rfl⟩
   simp only[hs,<-hkk] at hS
   rw[hs] at hxs h24 hwa hso
   have hW:=fun (R:Res) [Tab LT R] (g:R.σ)=>zX R p (l++[s]) hb (by rw[List.length_append,List.length_singleton];omega) (fun t ht=>by
    rcases List.mem_append.1 ht with h|h
    ·have:=hsl t h
     omega
    ·rw[List.mem_singleton.1 h]
     omega) g
   have hmm:(l++[s]).map ak=l.map ak++[ak s]:=by rw[List.map_append];rfl
   simp only[hmm,hwa,List.length_append,List.length_singleton,<-hml] at hW
   by_cases hk:okS p w (ak s)=true
   ·rw[if_pos hk] at hxs
    obtain⟨so1,so2⟩:=hso hk
    simp only[if_pos hk] at hW
    rw[if_neg dcd,if_neg dcd] at hW
    have hW2:=fun (R:Res) [Tab LT R] (g:R.σ)=>jt (args:=[au p,.sl 0 0 (m+1) (m+1) false 2]) (hW R g) ⟨Af _,Ao omg,trivial⟩ (show gv (.ret _) (.ret _) from Af _)
    have hki:decide ((i:Int)<(M:Int))=true:=decide_eq_true omg
    refine' zZ (q:=0<m) (C:=Wp Tryd.prog R 115 0 Rd.top (ax Tryd.prog 11) _ _ ⟨[(2,.ref 0 0),(6,ah V),(8,.ow true 1 n 1),(9,.ow true 7 (m+1) 2),(10,.int .i64 i),(12,.ref 3 0),(43,.fz (cL b.k) 1 M (fun i _=>.int .u32 (b.l.getD i 0))),(44,.int .i64 M),(45,.int .i64 i),(83,ah (ak s).atoms),(84,.int .i64 (ak s).atoms.l.length),(85,.int .i64 0)],[.cells false 2 (nth [.int .i64 p.atoms,ae p.rules]),.cells false (n*1) (cp w),.dead,.cells false 2 (nth [.int .i64 (ak s).rule,ah (ak s).atoms]),.dead,.dead,.dead,.cells false ((m+1)*2) (aP (l++[s]))],g⟩) (fun hm0 key=>?_) (fun hm0 key=>?_) ?_
    rotate_left
    rotate_left
    ·refine vcR [[1,1,1,1,1,1,0,1,0,0,1,1,0,0,1,1,1,0,1,0],[1,1,1,1,1,1,0,1,0,0,1,0,1]] (lkL [(9,[2,6,8,9,43,44,45,46]),(10,[2,6,8,9,10,11,43,44,45]),(11,[2,6,8,9,10,12,43,44,45]),(12,[2,6,8,9,10,12,13,14,43,44,45]),(13,[2,6,8,9,10,12,13,14,43,44,45,69]),(16,[2,6,8,9,10,12,43,44,45]),(17,[2,6,8,9,10,12,43,44,45,83,84,85])]) (lkL [(11,[(3,ROrc.kcall (agg 2 (nth [int i64 (ak s).rule,fz Fz.auto 1 (List.length (ak s).atoms.l) fun (i x:Nat)=>af (ak s).atoms.l i]))),(5,ROrc.val (Orc.obj (nth [int i64 (ak s).rule,fz Fz.auto 1 (List.length (ak s).atoms.l) fun (i x:Nat)=>af (ak s).atoms.l i])))]),(12,[(9,ROrc.val (Orc.obj (aP (l++[s])))),(10,ROrc.callS (tup 2 (nth [int i64 0,int i64 0])) [(5,dead)] g)])]) (fun Q=>(fun (u1:List AV)=>(fun (u2:AObj)=>(fun (u3:AObj)=>(fun (u4:AObj)=>(fun (u5:Nat × AV)=>(fun (u6:AObj)=>(fun (u7:Int)=>(fun (u8:Nat × AV)=>(fun (u9:List AV)=>(fun (u10:Int)=>(fun (u11:AObj)=>(fun (u12:List Kont)=>(fun (u13:Int)=>(decide (u7<u10)=true->(0<=u7/\u7<u10)/\1<=1/\2<=2/\(true=true/\Does Tryd.prog R 47 [au p,ow true 1 n 1,int IntKind.u32 (List.getD b.l i 0)] [u3,u4,u6] g (ret (agg 2 (nth u1))) [u3,u4,u6] g)/\2<=2/\(∀(c:Nat),c<2->nth u1 c=aj (nth u9) 0 2 (List.brecOn (motive:=fun (x:List AV)=>Nat->AV) u1 nth._f) c)/\Flw Tryd.prog/\2<=2/\(0<=u13/\u13<=u13)/\(0<=u13/\u13<=u13)/\0<m/\2<=2/\m-0<m-0+1/\0<1/\0<2/\(m-0+1)*32<=aB/\m-0+1<=aB/\2<=2/\0+(m-0)*2<=m*2/\(∀(c:Nat),c<(m-0+1)*2->aP (l++[s]) c=aT 2 (m-0) (fun (i j:Nat)=>aP l (0+i*2+j)) (fun (i j:Nat)=>aj (fun (j:Nat)=>nth u9 (j%2)) 0 2 (List.brecOn (motive:=fun (x:List AV)=>Nat->AV) u1 nth._f) (0+i*2+j)) c)/\(true=true/\Does Tryd.prog R 23 [au p,sl 5 0 (m-0+1) (m-0+1) false 2] [u3,u4,u6,u11,u2,cells false ((m-0+1)*2) (aP (l++[s]))] g (ret (tup 2 (nth [int i64 0,int i64 0]))) [u3,u4,u6,u11,u2,dead] g)/\(false=true->WpC Tryd.prog R 115 0 11 [1,1,1,1,1,1,0,1,0,0,1,1,0,0,1,1,1,0,1,0] Q (Kont.seq [1,1,1,1,1,1,0,1,0,0,1,1,0,0,1,1,1,1]::u12) (St.mk [(2,ref 0 0),u8,(8,ow true 1 n 1),(9,ow true 2 m 2),(10,int i64 u7),(12,ref 3 0),(13,int i64 0),(14,int i64 0),u5,(44,int i64 u10),(45,int i64 u7),(69,AV.bool false)] [u3,u4,u6,u11,u2,dead] g))/\(false=false->2<=2/\0<2/\(m+1)*32<=aB/\m+1<=aB/\2<=2/\m*2<=m*2/\2<=2/\WpC Tryd.prog R 115 0 11 [1,1,1,1,1,1,0,1,0,0,1,1,0,0,1,1,1,1,1,0,1,0] Q (Kont.blk 2::Kont.seq [1,1,1,1,1,1,0,1,0,0,1,1,0,0,1,1,1,1,1,1]::u12) (St.mk [(2,ref 0 0),u8,(8,ow true 1 n 1),(9,ow true 7 (m+1) 2),(10,int i64 u7),(12,ref 3 0),u5,(44,int i64 u10),(45,int i64 u7),(83,fz Fz.auto 1 (List.length (ak s).atoms.l) fun i x=>af (ak s).atoms.l i),(84,int i64 (↑(List.length (ak s).atoms.l):Int)),(85,int i64 0)] [u3,u4,dead,u11,u2,dead,u2,cells false ((m+1)*2) (aT 2 m (fun (i j:Nat)=>aP l (i*2+j)) fun i j=>aj (fun (j:Nat)=>nth u9 (j%2)) 0 2 (List.brecOn (motive:=fun (x:List AV)=>Nat->AV) u1 nth._f) (0+i*2+j))] g)))/\(decide (u7<u10)=false->WpC Tryd.prog R 115 0 11 [1,1,1,1,1,1,0,1,0,0,1,0,1] Q [Kont.seq [1,1,1,1,1,1,0,1,0,0,1,1]] (St.mk [(2,ref 0 0),u8,(8,ow true 1 n 1),(9,ow true 2 m 2),u5,(44,int i64 u10),(45,int i64 u7),(46,AV.bool (decide (u7<u10)))] [u3,u4,u6] g))) ((↑m:Int))) ([Kont.blk 1,Kont.seq [1,1,1,1,1,1,0,1,0,0,1,1,1]])) (cells false 2 (nth u1))) ((↑M:Int))) ([int i64 0,fz Fz.nil 0 0 fun x x_1=>any])) ((6,fz V.2 1 (List.length V.l) fun i x=>af V.l i))) ((↑i:Int))) (cells false (m*2) (aP l))) ((43,fz (cL b.k) 1 M fun i x=>int IntKind.u32 (List.getD b.l i 0)))) (cells false (n*1) fun a=>int i64 (w a))) (cells false 2 (nth [int i64 p.atoms,ae p.rules]))) (cells false 2 (aj (fun (j:Nat)=>nth [int i64 0,fz Fz.nil 0 0 fun x x_1=>any] (j%2)) 0 2 (List.brecOn (motive:=fun (x:List AV)=>Nat->AV) u1 nth._f)))) ([int i64 (ak s).rule,fz Fz.auto 1 (List.length (ak s).atoms.l) fun i x=>af (ak s).atoms.l i])) ⟨fun _=>⟨omg,omg,omg,⟨rfl,(doT (T:=LT) [1] 3 (fun R _ g=>hS R g) (hob:=by exact⟨⟨rfl,Nat.le_refl _,fun j hj=>(by first|exact bc (by first|exact trivial|apply fc)|exact Ag (gc rfl).symm)⟩,trivial⟩) (e3:=by exact⟨Ah,⟨rfl,Nat.le_refl _,fun j hj=>(by first|exact bq (by first|exact trivial|apply fc)|exact Ag (gc rfl))⟩,Ah,trivial⟩))⟩,omg,(fun c hc=>match c,hc with|0,_=>krf|1,_=>krf ),krf,omg,omg,omg,omg,omg,omg,omg,omg,omg,omg,omg,omg,?_,⟨rfl,(doT (T:=LT) [5] 6 (fun R _ g=>hW2 R g))⟩,fun h=>(nomatch h),fun _=>⟨omg,omg,omg,omg,omg,omg,omg,?_⟩⟩,fun hcc=>(nomatch (hki.symm.trans hcc))⟩
     ·intro c hc
      rw[Nat.sub_zero] at hc ⊢
      rw[hml] at hc ⊢
      have hf:(fun i j=>aP l (0+i*2+j))=fun i j=>aP l (i*2+j):=by funext i j;rw[Nat.zero_add]
      rw[hf]
      exact(iJ (z:=fun j=>nth [.int .i64 0,.fz .nil 0 0 fun _ _=>.any] (j%2)) rfl hc).trans krf
     refine vcR [] (lkL []) (fun _=>[]) (fun (Q:AEx->St R.σ->Prop)=>WpC Tryd.prog R 115 0 11 [1,1,1,1,1,1,0,1,0,0,1,1,0,0,1,1,1,1,1,0,1,0] Q [] (St.mk [(2,ref 0 0),(6,fz V.2 1 (List.length V.l) fun (i x:Nat)=>af V.l i),(8,ow true 1 n 1),(9,ow true 7 (m+1) 2),(10,int i64 (↑i:Int)),(12,ref 3 0),(43,fz (cL b.k) 1 M fun (i x:Nat)=>int IntKind.u32 (List.getD b.l i 0)),(44,int i64 (↑M:Int)),(45,int i64 (↑i:Int)),(83,fz Fz.auto 1 (List.length (ak s).atoms.l) fun (i x:Nat)=>af (ak s).atoms.l i),(84,int i64 (↑(List.length (ak s).atoms.l):Int)),(85,int i64 0)] [cells false 2 (nth [int i64 p.atoms,ae p.rules]),cells false (n*1) fun (a:Nat)=>int i64 (w a),dead,cells false 2 (nth [int i64 (ak s).rule,fz Fz.auto 1 (List.length (ak s).atoms.l) fun (i x:Nat)=>af (ak s).atoms.l i]),cells false 2 (aj (fun (j:Nat)=>nth [int i64 0,fz Fz.nil 0 0 fun (x x_1:Nat)=>any] (j%2)) 0 2 (List.brecOn (motive:=fun (x:List AV)=>Nat->AV) [int i64 (ak s).rule,fz Fz.auto 1 (List.length (ak s).atoms.l) fun (i x:Nat)=>af (ak s).atoms.l i] nth._f)),dead,cells false 2 (aj (fun (j:Nat)=>nth [int i64 0,fz Fz.nil 0 0 fun (x x_1:Nat)=>any] (j%2)) 0 2 (List.brecOn (motive:=fun (x:List AV)=>Nat->AV) [int i64 (ak s).rule,fz Fz.auto 1 (List.length (ak s).atoms.l) fun (i x:Nat)=>af (ak s).atoms.l i] nth._f)),cells false ((m+1)*2) (aT 2 m (fun (i j:Nat)=>aP l (i*2+j)) fun (i j:Nat)=>aj (fun (j:Nat)=>nth [int i64 0,fz Fz.nil 0 0 fun (x x_1:Nat)=>any] (j%2)) 0 2 (List.brecOn (motive:=fun (x:List AV)=>Nat->AV) [int i64 (ak s).rule,fz Fz.auto 1 (List.length (ak s).atoms.l) fun (i x:Nat)=>af (ak s).atoms.l i] nth._f) (0+i*2+j))] g)) (?_)
     refine cm ?_ (sM key ?_ ?_)
     rotate_left
     ·rfl
     ·rfl
     exact gq ⟨Af _,Af _,Af _,Af _,Af _,Af _,Af _,Af _,Af _,Af _,Af _,Af _,trivial⟩ ⟨Ai _,Ai _,Ai _,Ai _,trivial,Ai _,trivial,Ap (fun c hc=>by
       rw[hml] at hc ⊢
       exact((iJ (z:=fun j=>nth [.int .i64 0,.fz .nil 0 0 fun _ _=>.any] (j%2)) rfl hc).trans krf).symm),trivial⟩ rfl
    ·obtain rfl:m=0:=by omega
     obtain rfl:l=[]:=List.eq_nil_of_length_eq_zero hml.symm
     refine vcR [[1,1,1,1,1,1,0,1,0,0,1,1,0,0,1,1,1,0,1,0],[1,1,1,1,1,1,0,1,0,0,1,0,1]] (lkL [(9,[2,6,8,9,43,44,45,46]),(10,[2,6,8,9,10,11,43,44,45]),(11,[2,6,8,9,10,12,43,44,45]),(12,[2,6,8,9,10,12,13,14,43,44,45]),(13,[2,6,8,9,10,12,13,14,43,44,45,69]),(16,[2,6,8,9,10,12,43,44,45]),(17,[2,6,8,9,10,12,43,44,45,83,84,85])]) (lkL [(11,[(3,ROrc.kcall (agg 2 (nth [int i64 (ak s).rule,fz Fz.auto 1 (List.length (ak s).atoms.l) fun (i x:Nat)=>af (ak s).atoms.l i]))),(5,ROrc.val (Orc.obj (nth [int i64 (ak s).rule,fz Fz.auto 1 (List.length (ak s).atoms.l) fun (i x:Nat)=>af (ak s).atoms.l i])))]),(12,[(6,ROrc.look (fz Fz.nil 0 0 fun (x x_1:Nat)=>any) []),(9,ROrc.val (Orc.obj (aP [s]))),(10,ROrc.callS (tup 2 (nth [int i64 0,int i64 0])) [(5,dead)] g)])]) (fun Q=>(fun (u1:List AV)=>(fun (u2:AObj)=>(fun (u3:AObj)=>(fun (u4:AObj)=>(fun (u5:Nat × AV)=>(fun (u6:Nat × AV)=>(fun (u7:Int)=>(fun (u8:AObj)=>(fun (u9:AV)=>(fun (u10:Int)=>(fun (u11:AObj)=>(fun (u12:AV)=>(fun (u13:List Kont)=>(fun (u14:AV)=>(decide (u7<u10)=true->(0<=u7/\u7<u10)/\1<=1/\2<=2/\(true=true/\Does Tryd.prog R 47 [au p,ow true 1 n 1,int IntKind.u32 (List.getD b.l i 0)] [u3,u4,u8] g (ret (agg 2 (nth u1))) [u3,u4,u8] g)/\2<=2/\(∀(c:Nat),c<2->nth u1 c=aj (nth [u14,u9]) 0 2 (List.brecOn (motive:=fun (x:List AV)=>Nat->AV) u1 nth._f) c)/\Flw Tryd.prog/\2<=2/\(∀(hp':List AObj) (g':R.σ),SameO [] [u3,u4,u8,u11] hp'->OpOk Tryd.prog R (Oper.mk (some 61) (Op.slice 29 (Operand.tmp 56) none (some (Operand.tmp 58)) (some (Operand.tmp 60))) 29 "outright.go:87" #[Edge.mk 1 Ground.data,Edge.mk 3 Ground.data,Edge.mk 5 Ground.data] none) (evO [Row.mk (some 60) none (int i64 (↑0:Int)) false (some []) [],Row.mk (some 59) none u12 false (some []) [],Row.mk (some 58) none (int i64 (↑0:Int)) false (some []) [],Row.mk (some 57) none u12 false (some []) [],Row.mk (some 56) none u12 false (some []) [],Row.mk (some 55) none (au p) false (some []) [0]] [(2,ref 0 0),u6,(8,ow true 1 n 1),(9,u12),(10,int i64 u7),(12,ref 3 0),u5,(44,int i64 u10),(45,int i64 u7)] []) hp' g' u9 hp' g')/\2<=2/\0<2/\32<=aB/\1<=aB/\2<=2/\(∀(c:Nat),c<2->aP [s] c=aT 2 0 (fun (x x_1:Nat)=>any) (fun (i j:Nat)=>aj (fun (j:Nat)=>nth [u14,u9] (j%2)) 0 2 (List.brecOn (motive:=fun (x:List AV)=>Nat->AV) u1 nth._f) (0+i*2+j)) c)/\(true=true/\Does Tryd.prog R 23 [au p,ow true 5 1 2] [u3,u4,u8,u11,u2,cells false 2 (aP [s])] g (ret (tup 2 (nth [u14,u14]))) [u3,u4,u8,u11,u2,dead] g)/\(false=true->WpC Tryd.prog R 115 0 11 [1,1,1,1,1,1,0,1,0,0,1,1,0,0,1,1,1,0,1,0] Q (Kont.seq [1,1,1,1,1,1,0,1,0,0,1,1,0,0,1,1,1,1]::u13) (St.mk [(2,ref 0 0),u6,(8,ow true 1 n 1),(9,u12),(10,int i64 u7),(12,ref 3 0),(13,u14),(14,u14),u5,(44,int i64 u10),(45,int i64 u7),(69,AV.bool false)] [u3,u4,u8,u11,u2,dead] g))/\(false=false->2<=2/\0<2/\32<=aB/\1<=aB/\2<=2/\0<=0/\2<=2/\WpC Tryd.prog R 115 0 11 [1,1,1,1,1,1,0,1,0,0,1,1,0,0,1,1,1,1,1,0,1,0] Q (Kont.blk 2::Kont.seq [1,1,1,1,1,1,0,1,0,0,1,1,0,0,1,1,1,1,1,1]::u13) (St.mk [(2,ref 0 0),u6,(8,ow true 1 n 1),(9,ow true 7 1 2),(10,int i64 u7),(12,ref 3 0),u5,(44,int i64 u10),(45,int i64 u7),(83,fz Fz.auto 1 (List.length (ak s).atoms.l) fun i x=>af (ak s).atoms.l i),(84,int i64 (↑(List.length (ak s).atoms.l):Int)),(85,u14)] [u3,u4,dead,u11,u2,dead,u2,cells false 2 (aT 2 0 (fun (i j:Nat)=>aP [] (i*2+j)) fun i j=>aj (fun (j:Nat)=>nth [u14,u9] (j%2)) 0 2 (List.brecOn (motive:=fun (x:List AV)=>Nat->AV) u1 nth._f) (0+i*2+j))] g)))/\(decide (u7<u10)=false->WpC Tryd.prog R 115 0 11 [1,1,1,1,1,1,0,1,0,0,1,0,1] Q [Kont.seq [1,1,1,1,1,1,0,1,0,0,1,1]] (St.mk [(2,ref 0 0),u6,(8,ow true 1 n 1),(9,u12),u5,(44,int i64 u10),(45,int i64 u7),(46,AV.bool (decide (u7<u10)))] [u3,u4,u8] g))) (int i64 0)) ([Kont.blk 1,Kont.seq [1,1,1,1,1,1,0,1,0,0,1,1,1]])) (ow true 2 0 2)) (cells false 2 (nth u1))) ((↑M:Int))) (fz Fz.nil 0 0 fun x x_1=>any)) (cells false 0 (aP []))) ((↑i:Int))) ((6,fz V.2 1 (List.length V.l) fun i x=>af V.l i))) ((43,fz (cL b.k) 1 M fun i x=>int IntKind.u32 (List.getD b.l i 0)))) (cells false (n*1) fun a=>int i64 (w a))) (cells false 2 (nth [int i64 p.atoms,ae p.rules]))) (cells false 2 (aj (fun (j:Nat)=>nth [int i64 0,fz Fz.nil 0 0 fun x x_1=>any] (j%2)) 0 2 (List.brecOn (motive:=fun (x:List AV)=>Nat->AV) u1 nth._f)))) ([int i64 (ak s).rule,fz Fz.auto 1 (List.length (ak s).atoms.l) fun i x=>af (ak s).atoms.l i])) ⟨fun _=>⟨omg,omg,omg,⟨rfl,(doT (T:=LT) [1] 3 (fun R _ g=>hS R g) (hob:=by exact⟨⟨rfl,Nat.le_refl _,fun j hj=>(by first|exact bc (by first|exact trivial|apply fc)|exact Ag (gc rfl).symm)⟩,trivial⟩) (e3:=by exact⟨Ah,⟨rfl,Nat.le_refl _,fun j hj=>(by first|exact bq (by first|exact trivial|apply fc)|exact Ag (gc rfl))⟩,Ah,trivial⟩))⟩,omg,(fun c hc=>match c,hc with|0,_=>krf|1,_=>krf ),krf,omg,?_,omg,omg,omg,omg,omg,?_,⟨rfl,(doT (T:=LT) [5] 6 (fun R _ g=>hW R g))⟩,fun h=>(nomatch h),fun _=>⟨omg,omg,omg,omg,omg,omg,omg,?_⟩⟩,fun hcc=>(nomatch (hki.symm.trans hcc))⟩
     ·intro hp' g' hh
      exact sK rfl rfl rfl rfl krf
     ·intro c hc
      exact(iJ (l:=[]) (z:=fun j=>nth [.int .i64 0,.fz .nil 0 0 fun _ _=>.any] (j%2)) rfl hc).trans krf
     refine vcR [] (lkL []) (fun _=>[]) (fun (Q:AEx->St R.σ->Prop)=>WpC Tryd.prog R 115 0 11 [1,1,1,1,1,1,0,1,0,0,1,1,0,0,1,1,1,1,1,0,1,0] Q [] (St.mk [(2,ref 0 0),(6,fz V.2 1 (List.length V.l) fun (i x:Nat)=>af V.l i),(8,ow true 1 n 1),(9,ow true 7 1 2),(10,int i64 (↑i:Int)),(12,ref 3 0),(43,fz (cL b.k) 1 M fun (i x:Nat)=>int IntKind.u32 (List.getD b.l i 0)),(44,int i64 (↑M:Int)),(45,int i64 (↑i:Int)),(83,fz Fz.auto 1 (List.length (ak s).atoms.l) fun (i x:Nat)=>af (ak s).atoms.l i),(84,int i64 (↑(List.length (ak s).atoms.l):Int)),(85,int i64 0)] [cells false 2 (nth [int i64 p.atoms,ae p.rules]),cells false (n*1) fun (a:Nat)=>int i64 (w a),dead,cells false 2 (nth [int i64 (ak s).rule,fz Fz.auto 1 (List.length (ak s).atoms.l) fun (i x:Nat)=>af (ak s).atoms.l i]),cells false 2 (aj (fun (j:Nat)=>nth [int i64 0,fz Fz.nil 0 0 fun (x x_1:Nat)=>any] (j%2)) 0 2 (List.brecOn (motive:=fun (x:List AV)=>Nat->AV) [int i64 (ak s).rule,fz Fz.auto 1 (List.length (ak s).atoms.l) fun (i x:Nat)=>af (ak s).atoms.l i] nth._f)),dead,cells false 2 (aj (fun (j:Nat)=>nth [int i64 0,fz Fz.nil 0 0 fun (x x_1:Nat)=>any] (j%2)) 0 2 (List.brecOn (motive:=fun (x:List AV)=>Nat->AV) [int i64 (ak s).rule,fz Fz.auto 1 (List.length (ak s).atoms.l) fun (i x:Nat)=>af (ak s).atoms.l i] nth._f)),cells false 2 (aT 2 0 (fun (i j:Nat)=>aP [] (i*2+j)) fun (i j:Nat)=>aj (fun (j:Nat)=>nth [int i64 0,fz Fz.nil 0 0 fun (x x_1:Nat)=>any] (j%2)) 0 2 (List.brecOn (motive:=fun (x:List AV)=>Nat->AV) [int i64 (ak s).rule,fz Fz.auto 1 (List.length (ak s).atoms.l) fun (i x:Nat)=>af (ak s).atoms.l i] nth._f) (0+i*2+j))] g)) (?_)
     refine cm ?_ (sM key ?_ ?_)
     rotate_left
     ·rfl
     ·rfl
     exact gq ⟨Af _,Af _,Af _,Af _,Af _,Af _,Af _,Af _,Af _,Af _,Af _,Af _,trivial⟩ ⟨Ai _,Ai _,Ai _,Ai _,trivial,Ai _,trivial,Ap (fun c hc=>((iJ (l:=[]) (z:=fun j=>nth [.int .i64 0,.fz .nil 0 0 fun _ _=>.any] (j%2)) rfl hc).trans krf).symm),trivial⟩ rfl
    ·have hup:=z1 (fun a ha=>(so2 a ha).1) hk
     refine(bl krf (fun (j:Nat)=>⟨[(2,ref 0 0),(6,fz V.2 1 (V.l.length) fun (i x:Nat)=>af V.l i),(8,ow true 1 n 1),(9,ow true 7 (m+1) 2),(10,int i64 (i:Int)),(12,ref 3 0),(43,fz (cL b.k) 1 M fun (i x:Nat)=>int IntKind.u32 (b.l.getD i 0)),(44,int i64 (M:Int)),(45,int i64 (i:Int)),(83,fz Fz.auto 1 ((ak s).atoms.l.length) fun (i x:Nat)=>af (ak s).atoms.l i),(84,int i64 (↑((ak s).atoms.l.length):Int)),(85,.int .i64 j)],[.cells false 2 (nth [.int .i64 p.atoms,ae p.rules]),.cells false (n*1) (cp (dI w (bx s) (s.atoms.take j))),.dead,.cells false 2 (nth [.int .i64 (ak s).rule,ah (ak s).atoms]),.dead,.dead,.dead,.cells false ((m+1)*2) (aP (l++[s]))],g⟩) (fun (j:Nat)=>(j<=s.atoms.length)) (fun (j:Nat)=>(s.atoms.length-j)) 0 (toL (h1:=⟨Af _,Af _,Af _,Af _,Af _,Af _,Af _,Af _,Af _,Af _,Af _,(Ag krf),trivial⟩) (h2:=⟨Ah,Ah,(LeO.dead _),Ah,(LeO.dead _),(LeO.dead _),(LeO.dead _),Ah,trivial⟩)) ?_ (fun j hi=>?_))
     ·exact Nat.zero_le _
     ·rcases Nat.lt_or_ge j s.atoms.length with hj|hj
      ·obtain⟨a1,a2,a3⟩:=so2 _ (bR s.atoms 0 hj)
       have hut:=zN (w:=w) (x:=bx s) hj a1
       have b1:0<=(ak s).atoms.l.getD j 0:=a1
       have b2:(ak s).atoms.l.getD j 0<p.atoms:=a2
       have hsl2:(ak s).atoms.l.length=s.atoms.length:=rfl
       have hvg:V.l.getD ((ak s).atoms.l.getD j 0).toNat 0=bx s:=by
        rw[hVg _ omg]
        have h1:=so1 ((ak s).atoms.l.getD j 0).toNat
        have h2:newS p w (ak s) ((ak s).atoms.l.getD j 0).toNat=bx s:=a3
        rw[h2] at h1
        have h3:bx s≠3:=by
         unfold bx
         by_cases h:s.rule = -1
         ·rw[if_pos h];decide
         ·rw[if_neg h];decide
        exact(h1 h3).symm
       have hvt:af V.l ((ak s).atoms.l.getD j 0).toNat=.int .i64 (bx s):=by
        show AV.int .i64 (V.l.getD _ 0)=_
        rw[hvg]
       refine vcR [] (lkL [(18,[2,6,8,9,10,12,43,44,45,83,84,85,86]),(19,[2,6,8,9,10,12,16,43,44,45,83,84,85]),(20,[2,6,8,9,10,12,16,43,44,45,83,84,85]),(21,[2,6,8,9,10,12,16,43,44,45,83,84,85,94]),(22,[2,6,8,9,10,12,16,43,44,45,83,84,85]),(23,[2,6,8,9,10,12,43,44,45,83,84,85,106]),(24,[4]),(25,[2,6,8,9,10,12,43,44,45,83,84,85])]) (lkL [(23,[(3,ROrc.look (int i64 (bx s)) [1]),(3,ROrc.look (int i64 (bx s)) [1])])]) (fun Q=>(fun (u1:List AObj)=>(fun (u2:Int)=>(fun (u3:List AObj)=>(fun (u4:List (Nat × AV))=>(fun (u5:List AObj)=>(fun (u6:Int)=>(fun (u7:List Row)=>(fun (u8:Nat × AV)=>(fun (u9:Nat × AV)=>(fun (u10:Int)=>(fun (u11:Bool)=>(fun (u12:Nat × AV)=>(fun (u13:Oper)=>(fun (u14:AV)=>(decide (u10<u6)=true->(0<=u10/\u10<u6)/\1<=1/\(0<=u2/\u2<(↑n:Int))/\Int.toNat u2+1<=n*1/\1<=2/\(((ak s).rule == -1)=true->(0<=u2/\u2<(↑n:Int))/\Int.toNat u2+1<=n*1/\Flw Tryd.prog/\(0<=u2/\u2<(↑n:Int))/\(∀(hp':List AObj) (g':R.σ),SameO [1] u3 hp'->OpOk Tryd.prog R u13 (evO u7 [(2,ref 0 0),u12,(8,ow true 1 n 1),(9,ow true 7 (m+1) 2),(10,u14),(12,ref 3 0),(16,af (ak s).atoms.l j),u9,(44,int i64 (↑M:Int)),(45,u14),u8,(84,int i64 u6),(85,int i64 u10)] []) hp' g' (int i64 (bx s)) hp' g')/\(0<=u2/\u2<(↑(List.length V.l):Int))/\1<=1/\(u11=true->Q AEx.ret (St.mk [(4,AV.bool false)] u3 g))/\(u11=false->(-9223372036854775808<=u10+1/\u10+1<=9223372036854775807)/\Q AEx.normal (St.mk u4 u3 g)))/\(((ak s).rule == -1)=false->Flw Tryd.prog/\(0<=u2/\u2<(↑n:Int))/\(∀(hp':List AObj) (g':R.σ),SameO [1] u5 hp'->OpOk Tryd.prog R u13 (evO u7 [(2,ref 0 0),u12,(8,ow true 1 n 1),(9,ow true 7 (m+1) 2),(10,u14),(12,ref 3 0),(16,af (ak s).atoms.l j),u9,(44,int i64 (↑M:Int)),(45,u14),u8,(84,int i64 u6),(85,int i64 u10),(94,AV.bool ((ak s).rule == -1))] []) hp' g' (int i64 (bx s)) hp' g')/\(0<=u2/\u2<(↑(List.length V.l):Int))/\1<=1/\(u11=true->Q AEx.ret (St.mk [(4,AV.bool false)] u5 g))/\(u11=false->(-9223372036854775808<=u10+1/\u10+1<=9223372036854775807)/\Q AEx.normal (St.mk u4 u5 g))))/\(decide (u10<u6)=false->Q (AEx.exit 2) (St.mk [(2,ref 0 0),u12,(8,ow true 1 n 1),(9,ow true 7 (m+1) 2),(10,u14),(12,ref 3 0),u9,(44,int i64 (↑M:Int)),(45,u14),u8,(84,int i64 u6),(85,int i64 u10),(86,AV.bool (decide (u10<u6)))] (cells false 2 (nth [int i64 p.atoms,ae p.rules])::(cells false (n*1) fun a=>int i64 (dI w (bx s) (List.take j s.atoms) a))::u1) g))) (int i64 (↑i:Int))) (Oper.mk (some 101) (Op.load 43 (Operand.tmp 100)) 43 "outright.go:100" #[Edge.mk 2 Ground.data] none)) ((6,fz V.2 1 (List.length V.l) fun i x=>af V.l i))) (bx s != List.getD V.l (Int.toNat u2) 0)) ((↑j:Int))) ((43,fz (cL b.k) 1 M fun i x=>int IntKind.u32 (List.getD b.l i 0)))) ((83,fz Fz.auto 1 (List.length (ak s).atoms.l) fun i x=>af (ak s).atoms.l i))) ([Row.mk (some 100) none (ref 1 (Int.toNat u2)) false (some []) [],Row.mk (some 99) none (af (ak s).atoms.l j) false (some []) [],Row.mk (some 98) none (ow true 1 n 1) false (some []) []])) ((↑(List.length (ak s).atoms.l):Int))) (cells false 2 (nth [int i64 p.atoms,ae p.rules])::cells false (n*1) (aj (fun (a:Nat)=>int i64 (dI w (bx s) (List.take j s.atoms) a)) (Int.toNat u2) 1 fun x=>int i64 2)::u1)) ([(2,ref 0 0),(6,fz V.2 1 (List.length V.l) fun i x=>af V.l i),(8,ow true 1 n 1),(9,ow true 7 (m+1) 2),(10,int i64 (↑i:Int)),(12,ref 3 0),(43,fz (cL b.k) 1 M fun i x=>int IntKind.u32 (List.getD b.l i 0)),(44,int i64 (↑M:Int)),(45,int i64 (↑i:Int)),(83,fz Fz.auto 1 (List.length (ak s).atoms.l) fun i x=>af (ak s).atoms.l i),(84,int i64 (↑(List.length (ak s).atoms.l):Int)),(85,int i64 ((↑j:Int)+1))])) (cells false 2 (nth [int i64 p.atoms,ae p.rules])::cells false (n*1) (aj (aj (fun (a:Nat)=>int i64 (dI w (bx s) (List.take j s.atoms) a)) (Int.toNat u2) 1 fun x=>int i64 2) (Int.toNat u2) 1 fun x=>int i64 1)::u1)) (List.getD (ak s).atoms.l j 0)) ([dead,cells false 2 (nth [int i64 (ak s).rule,fz Fz.auto 1 (List.length (ak s).atoms.l) fun i x=>af (ak s).atoms.l i]),dead,dead,dead,cells false ((m+1)*2) (aP (l++[s]))])) ⟨fun c1=>have c1:(↑j:Int)<(↑(List.length (ak s).atoms.l):Int):=(of_decide_eq_true c1);⟨omg,omg,omg,omg,omg,fun c2=>have c2:(ak s).rule = -1:=(beq_iff_eq.mp c2);⟨omg,omg,krf,omg,?_,omg,omg,fun c3=>have c3:¬bx s=List.getD V.l (Int.toNat (List.getD (ak s).atoms.l j 0)) 0:=(bne_iff_ne.mp c3);?_,fun c3=>have c3:bx s=List.getD V.l (Int.toNat (List.getD (ak s).atoms.l j 0)) 0:=(bne_eq_false_iff_eq.mp c3);⟨omg,?_⟩⟩,fun c2=>have c2:¬(ak s).rule = -1:=(beq_eq_false_iff_ne.mp c2);⟨krf,omg,?_,omg,omg,fun c3=>have c3:¬bx s=List.getD V.l (Int.toNat (List.getD (ak s).atoms.l j 0)) 0:=(bne_iff_ne.mp c3);?_,fun c3=>have c3:bx s=List.getD V.l (Int.toNat (List.getD (ak s).atoms.l j 0)) 0:=(bne_eq_false_iff_eq.mp c3);⟨omg,?_⟩⟩⟩,fun c1=>have c1:¬(↑j:Int)<(↑(List.length (ak s).atoms.l):Int):=(of_decide_eq_false c1);?_⟩
       ·intro hp' g' hh
        have hx:bx s=1:=if_pos c2
        refine dC rfl rfl krf (hh.h 1 (List.Mem.head _)) omg ?_
        rw[cY,if_pos ⟨Nat.le_refl _,Nat.lt_succ_self _⟩,hx]
       ·exact absurd hvg.symm c3
       ·have hx:bx s=1:=if_pos c2
        refine(aU (j+1) (toL (h1:=⟨Af _,Af _,Af _,Af _,Af _,Af _,Af _,Af _,Af _,Af _,Af _,(Ag krf),trivial⟩) (h2:=⟨Ah,?_,(LeO.dead _),Ah,(LeO.dead _),(LeO.dead _),(LeO.dead _),Ah,trivial⟩)) ?_ ?_)
        ·exact⟨rfl,Nat.le_refl _,fun c _=>Ag (zO (fun j=>by rw[hut,hx];rfl))⟩
        ·omega
        ·omega
       ·intro hp' g' hh
        have hx:bx s=2:=if_neg c2
        refine dC rfl rfl krf (hh.h 1 (List.Mem.head _)) omg ?_
        rw[cY,if_pos ⟨Nat.le_refl _,Nat.lt_succ_self _⟩,hx]
       ·exact absurd hvg.symm c3
       ·have hx:bx s=2:=if_neg c2
        refine(aU (j+1) (toL (h1:=⟨Af _,Af _,Af _,Af _,Af _,Af _,Af _,Af _,Af _,Af _,Af _,(Ag krf),trivial⟩) (h2:=⟨Ah,?_,(LeO.dead _),Ah,(LeO.dead _),(LeO.dead _),(LeO.dead _),Ah,trivial⟩)) ?_ ?_)
        ·exact⟨rfl,Nat.le_refl _,fun c _=>Ag (zM (fun j=>by rw[hut,hx];rfl))⟩
        ·omega
        ·omega
       ·exfalso;omega
      ·have hje:j=s.atoms.length:=by omega
       subst hje
       have hjl:decide ((s.atoms.length:Int)<((ak s).atoms.l.length:Int))=false:=decide_eq_false (by rw[show(ak s).atoms.l.length=s.atoms.length from rfl];omega)
       rw[List.take_length]
       refine vcR [[1,1,1,1,1,1,0,1,0,0,1,1,0,0,1,1,1,1,1,0,1,0,0,1,0,0]] (lkL [(18,[2,6,8,9,10,12,43,44,45,83,84,85,86])]) (fun _=>[]) (fun Q=>(fun (u1:St R.σ)=>(fun (u2:Int)=>(fun (u3:Int)=>(decide (u3<u2)=true->WpC Tryd.prog R 115 0 11 [1,1,1,1,1,1,0,1,0,0,1,1,0,0,1,1,1,1,1,0,1,0,0,1,0,0] Q [Kont.seq [1,1,1,1,1,1,0,1,0,0,1,1,0,0,1,1,1,1,1,0,1,0,0,1,1]] u1)/\(decide (u3<u2)=false->Q (AEx.exit 2) u1)) ((↑(List.length s.atoms):Int))) ((↑(List.length (ak s).atoms.l):Int))) (St.mk [(2,ref 0 0),(6,fz V.2 1 (List.length V.l) fun i x=>af V.l i),(8,ow true 1 n 1),(9,ow true 7 (m+1) 2),(10,int i64 (↑i:Int)),(12,ref 3 0),(43,fz (cL b.k) 1 M fun i x=>int IntKind.u32 (List.getD b.l i 0)),(44,int i64 (↑M:Int)),(45,int i64 (↑i:Int)),(83,fz Fz.auto 1 (List.length (ak s).atoms.l) fun i x=>af (ak s).atoms.l i),(84,int i64 (↑(List.length (ak s).atoms.l):Int)),(85,int i64 (↑(List.length s.atoms):Int)),(86,AV.bool (decide ((↑(List.length s.atoms):Int)<(↑(List.length (ak s).atoms.l):Int))))] [cells false 2 (nth [int i64 p.atoms,ae p.rules]),cells false (n*1) fun a=>int i64 (dI w (bx s) s.atoms a),dead,cells false 2 (nth [int i64 (ak s).rule,fz Fz.auto 1 (List.length (ak s).atoms.l) fun i x=>af (ak s).atoms.l i]),dead,dead,dead,cells false ((m+1)*2) (aP (l++[s]))] g)) ⟨fun hcc=>(nomatch (hjl.symm.trans hcc)),fun _=>?_⟩
       refine⟨_,Ar _,vcR [] (lkL [(26,[2,6,8,9,43,44,45,112]),(27,[4])]) (fun _=>[]) (fun Q=>(fun (u1:List AObj)=>(fun (u2:Int)=>(fun (u3:Int)=>(-9223372036854775808<=u2/\u2<=9223372036854775807)/\(decide (u3 > u2)=true->Q AEx.ret (St.mk [(4,AV.bool false)] u1 g))/\(decide (u3 > u2)=false->Q AEx.normal (St.mk [(2,ref 0 0),(6,fz V.2 1 (List.length V.l) fun i x=>af V.l i),(8,ow true 1 n 1),(9,ow true 7 (m+1) 2),(43,fz (cL b.k) 1 M fun i x=>int IntKind.u32 (List.getD b.l i 0)),(44,int i64 (↑M:Int)),(45,int i64 (↑i:Int)),(112,AV.bool (decide (u3 > u2)))] u1 g))) ((↑(m+1):Int))) ((↑i:Int)+1)) ([cells false 2 (nth [int i64 p.atoms,ae p.rules]),cells false (n*1) fun a=>int i64 (dI w (bx s) s.atoms a),dead,cells false 2 (nth [int i64 (ak s).rule,fz Fz.auto 1 (List.length (ak s).atoms.l) fun i x=>af (ak s).atoms.l i]),dead,dead,dead,cells false ((m+1)*2) (aP (l++[s]))])) ⟨omg,fun c1=>have c1:(↑(m+1):Int) > (↑i:Int)+1:=(of_decide_eq_true c1);?_,fun c1=>have c1:¬(↑(m+1):Int) > (↑i:Int)+1:=(of_decide_eq_false c1);?_⟩⟩
       ·exfalso;omega
       ·refine vcR [] (lkL [(28,[2,6,8,9,43,44,45])]) (fun _=>[]) (fun Q=>(-9223372036854775808<=(↑i:Int)+1/\(↑i:Int)+1<=9223372036854775807)/\Q AEx.normal (St.mk [(2,ref 0 0),(6,fz V.2 1 (List.length V.l) fun i x=>af V.l i),(8,ow true 1 n 1),(9,ow true 7 (m+1) 2),(43,fz (cL b.k) 1 M fun i x=>int IntKind.u32 (List.getD b.l i 0)),(44,int i64 (↑M:Int)),(45,int i64 ((↑i:Int)+1))] [cells false 2 (nth [int i64 p.atoms,ae p.rules]),cells false (n*1) fun a=>int i64 (dI w (bx s) s.atoms a),dead,cells false 2 (nth [int i64 (ak s).rule,fz Fz.auto 1 (List.length (ak s).atoms.l) fun i x=>af (ak s).atoms.l i]),dead,dead,dead,cells false ((m+1)*2) (aP (l++[s]))] g)) ⟨omg,?_⟩
        refine(aU (i+1,m+1,l++[s],dI w (bx s) s.atoms) (toS [0,1,7] 8 (hob:=⟨⟨rfl,Nat.le_refl _,fun j hj=>match j,hj with|0,_=>(Af _)|1,_=>(Af _) ⟩,?_,⟨by first|rfl|(simp;done),by first|exact Nat.le_refl _|(simp;done)|(simp;omega),fun j hj=>(by first|exact bc (by first|exact trivial|apply jG)|exact Ag (lb rfl).symm)⟩,trivial⟩)) ?_ ?_)
        ·exact Ai _
        ·refine⟨?_,?_,?_⟩
         ·show i+1<=M
          omega
         ·show X (i+1)=(l++[s],dI w (bx s) s.atoms)
          rw[hxs,hup]
         ·show m+1=(l++[s]).length
          rw[List.length_append,List.length_singleton,hml]
        ·show M-(i+1)<M-i
         omega
   ·rw[if_neg hk] at hxs
    simp only[if_neg hk] at hW
    rw[if_pos (Int.natCast_nonneg _),if_pos (Int.natCast_nonneg _)] at hW
    have hki:decide ((i:Int)<(M:Int))=true:=decide_eq_true omg
    have hW2:=fun (R:Res) [Tab LT R] (g:R.σ)=>jt (args:=[au p,.sl 0 0 (m+1) (m+1) false 2]) (hW R g) ⟨Af _,Ao omg,trivial⟩ (show gv (.ret _) (.ret _) from Af _)
    by_cases hm0:0<m
    ·refine vcR [[1,1,1,1,1,1,0,1,0,0,1,1,0,0,1,1,1,0,1,1],[1,1,1,1,1,1,0,1,0,0,1,0,1]] (lkL [(9,[2,6,8,9,43,44,45,46]),(10,[2,6,8,9,10,11,43,44,45]),(11,[2,6,8,9,10,12,43,44,45]),(12,[2,6,8,9,10,12,13,14,43,44,45]),(13,[2,6,8,9,10,12,13,14,43,44,45,69]),(14,[2,6,8,9,43,44,45,77]),(15,[4]),(28,[2,6,8,9,43,44,45])]) (lkL [(11,[(3,ROrc.kcall (agg 2 (nth [int i64 (ak s).rule,fz Fz.auto 1 (List.length (ak s).atoms.l) fun (i x:Nat)=>af (ak s).atoms.l i]))),(5,ROrc.val (Orc.obj (nth [int i64 (ak s).rule,fz Fz.auto 1 (List.length (ak s).atoms.l) fun (i x:Nat)=>af (ak s).atoms.l i])))]),(12,[(9,ROrc.val (Orc.obj (aP (l++[s])))),(10,ROrc.callS (tup 2 (nth [int i64 (↑m:Int),int i64 7])) [(5,dead)] g)])]) (fun Q=>(fun (u1:List AObj)=>(fun (u2:List AV)=>(fun (u3:List AObj)=>(fun (u4:Nat × AV)=>(fun (u5:Int)=>(fun (u6:Nat × AV)=>(fun (u7:Int)=>(fun (u8:List AV)=>(fun (u9:Int)=>(decide (u5<u9)=true->(0<=u5/\u5<u9)/\1<=1/\2<=2/\(true=true/\Does Tryd.prog R 47 [au p,ow true 1 n 1,int IntKind.u32 (List.getD b.l i 0)] u3 g (ret (agg 2 (nth u2))) u3 g)/\2<=2/\(∀(c:Nat),c<2->nth u2 c=aj (nth u8) 0 2 (List.brecOn (motive:=fun (x:List AV)=>Nat->AV) u2 nth._f) c)/\Flw Tryd.prog/\2<=2/\(0<=u7/\u7<=u7)/\(0<=u7/\u7<=u7)/\0<m/\2<=2/\m-0<m-0+1/\0<1/\0<2/\(m-0+1)*32<=aB/\m-0+1<=aB/\2<=2/\0+(m-0)*2<=m*2/\(∀(c:Nat),c<(m-0+1)*2->aP (l++[s]) c=aT 2 (m-0) (fun (i j:Nat)=>aP l (0+i*2+j)) (fun (i j:Nat)=>aj (fun (j:Nat)=>nth u8 (j%2)) 0 2 (List.brecOn (motive:=fun (x:List AV)=>Nat->AV) u2 nth._f) (0+i*2+j)) c)/\(true=true/\Does Tryd.prog R 23 [au p,sl 5 0 (m-0+1) (m-0+1) false 2] [cells false 2 (nth [int i64 p.atoms,ae p.rules]),cells false (n*1) fun a=>int i64 (w a),cells false (m*2) (aP l),cells false 2 (nth u2),cells false 2 (aj (fun (j:Nat)=>nth u8 (j%2)) 0 2 (List.brecOn (motive:=fun (x:List AV)=>Nat->AV) u2 nth._f)),cells false ((m-0+1)*2) (aP (l++[s]))] g (ret (tup 2 (nth [int i64 u7,int i64 7]))) u1 g)/\(true=true->((bif false then true else u7 != u7)=true->Q AEx.ret (St.mk [(4,AV.bool false)] u1 g))/\((bif false then true else u7 != u7)=false->(-9223372036854775808<=u5+1/\u5+1<=9223372036854775807)/\Q AEx.normal (St.mk [(2,ref 0 0),u6,(8,ow true 1 n 1),(9,ow true 2 m 2),u4,(44,int i64 u9),(45,int i64 (u5+1))] u1 g)))/\(true=false->WpC Tryd.prog R 115 0 11 [1,1,1,1,1,1,0,1,0,0,1,1,0,0,1,1,1,0,1,1] Q [Kont.seq [1,1,1,1,1,1,0,1,0,0,1,1,0,0,1,1,1,1],Kont.blk 1,Kont.seq [1,1,1,1,1,1,0,1,0,0,1,1,1]] (St.mk [(2,ref 0 0),u6,(8,ow true 1 n 1),(9,ow true 2 m 2),(10,int i64 u5),(12,ref 3 0),(13,int i64 u7),(14,int i64 7),u4,(44,int i64 u9),(45,int i64 u5),(69,AV.bool true)] u1 g)))/\(decide (u5<u9)=false->WpC Tryd.prog R 115 0 11 [1,1,1,1,1,1,0,1,0,0,1,0,1] Q [Kont.seq [1,1,1,1,1,1,0,1,0,0,1,1]] (St.mk [(2,ref 0 0),u6,(8,ow true 1 n 1),(9,ow true 2 m 2),u4,(44,int i64 u9),(45,int i64 u5),(46,AV.bool (decide (u5<u9)))] u3 g))) ((↑M:Int))) ([int i64 0,fz Fz.nil 0 0 fun x x_1=>any])) ((↑m:Int))) ((6,fz V.2 1 (List.length V.l) fun i x=>af V.l i))) ((↑i:Int))) ((43,fz (cL b.k) 1 M fun i x=>int IntKind.u32 (List.getD b.l i 0)))) ([cells false 2 (nth [int i64 p.atoms,ae p.rules]),cells false (n*1) fun a=>int i64 (w a),cells false (m*2) (aP l)])) ([int i64 (ak s).rule,fz Fz.auto 1 (List.length (ak s).atoms.l) fun i x=>af (ak s).atoms.l i])) ([cells false 2 (nth [int i64 p.atoms,ae p.rules]),cells false (n*1) fun a=>int i64 (w a),cells false (m*2) (aP l),cells false 2 (nth [int i64 (ak s).rule,fz Fz.auto 1 (List.length (ak s).atoms.l) fun i x=>af (ak s).atoms.l i]),cells false 2 (aj (fun (j:Nat)=>nth [int i64 0,fz Fz.nil 0 0 fun x x_1=>any] (j%2)) 0 2 (List.brecOn (motive:=fun (x:List AV)=>Nat->AV) [int i64 (ak s).rule,fz Fz.auto 1 (List.length (ak s).atoms.l) fun i x=>af (ak s).atoms.l i] nth._f)),dead])) ⟨fun _=>⟨omg,omg,omg,⟨rfl,(doT (T:=LT) [1] 3 (fun R _ g=>hS R g) (hob:=by exact⟨⟨rfl,Nat.le_refl _,fun j hj=>(by first|exact bc (by first|exact trivial|apply fc)|exact Ag (gc rfl).symm)⟩,trivial⟩) (e3:=by exact⟨Ah,⟨rfl,Nat.le_refl _,fun j hj=>(by first|exact bq (by first|exact trivial|apply fc)|exact Ag (gc rfl))⟩,Ah,trivial⟩))⟩,omg,(fun c hc=>match c,hc with|0,_=>krf|1,_=>krf ),krf,omg,omg,omg,omg,omg,omg,omg,omg,omg,omg,omg,omg,?_,⟨rfl,(doT (T:=LT) [5] 6 (fun R _ g=>hW2 R g))⟩,fun _=>⟨fun c1=>have c1:false=true∨¬(↑m:Int)=(↑m:Int):=((fw c1).imp (fun h=>h) (fun h=>(bne_iff_ne.mp h)));?_,fun c1=>have c1:false=false/\(↑m:Int)=(↑m:Int):=⟨(cI c1).1,(bne_eq_false_iff_eq.mp (cI c1).2)⟩;⟨omg,?_⟩⟩,fun h=>(nomatch h)⟩,fun hcc=>(nomatch (hki.symm.trans hcc))⟩
     ·intro c hc
      rw[Nat.sub_zero] at hc ⊢
      rw[hml] at hc ⊢
      have hf:(fun i j=>aP l (0+i*2+j))=fun i j=>aP l (i*2+j):=by funext i j;rw[Nat.zero_add]
      rw[hf]
      exact(iJ (z:=fun j=>nth [.int .i64 0,.fz .nil 0 0 fun _ _=>.any] (j%2)) rfl hc).trans krf
     ·exfalso
      rcases c1 with h|h
      ·cases h
      ·exact h rfl
     ·refine(aU (i+1,m,l,w) (toS [0,1,2] 6 (hob:=⟨⟨rfl,Nat.le_refl _,fun j hj=>match j,hj with|0,_=>(Af _)|1,_=>(Af _) ⟩,?_,⟨by first|rfl|(simp;done),by first|exact Nat.le_refl _|(simp;done)|(simp;omega),fun j hj=>(by first|exact bc (by first|exact trivial|apply jG)|exact Ag (lb rfl).symm)⟩,trivial⟩)) ?_ ?_)
      ·exact Ai _
      ·exact⟨by show i+1<=M;omega,hxs,hml⟩
      ·show M-(i+1)<M-i
       omega
    ·obtain rfl:m=0:=by omega
     obtain rfl:l=[]:=List.eq_nil_of_length_eq_zero hml.symm
     refine vcR [[1,1,1,1,1,1,0,1,0,0,1,1,0,0,1,1,1,0,1,0,0,1,0],[1,1,1,1,1,1,0,1,0,0,1,1,0,0,1,1,1,0,1,1],[1,1,1,1,1,1,0,1,0,0,1,0,1]] (lkL [(9,[2,6,8,9,43,44,45,46]),(10,[2,6,8,9,10,11,43,44,45]),(11,[2,6,8,9,10,12,43,44,45]),(12,[2,6,8,9,10,12,13,14,43,44,45]),(13,[2,6,8,9,10,12,13,14,43,44,45,69]),(14,[2,6,8,9,43,44,45,77]),(28,[2,6,8,9,43,44,45])]) (lkL [(11,[(3,ROrc.kcall (agg 2 (nth [int i64 (ak s).rule,fz Fz.auto 1 (List.length (ak s).atoms.l) fun (i x:Nat)=>af (ak s).atoms.l i]))),(5,ROrc.val (Orc.obj (nth [int i64 (ak s).rule,fz Fz.auto 1 (List.length (ak s).atoms.l) fun (i x:Nat)=>af (ak s).atoms.l i])))]),(12,[(6,ROrc.look (fz Fz.nil 0 0 fun (x x_1:Nat)=>any) []),(9,ROrc.val (Orc.obj (aP [s]))),(10,ROrc.callS (tup 2 (nth [int i64 (↑0:Int),int i64 7])) [(5,dead)] g)])]) (fun Q=>(fun (u1:List AObj)=>(fun (u2:List AV)=>(fun (u3:Nat × AV)=>(fun (u4:List AObj)=>(fun (u5:Nat × AV)=>(fun (u6:Int)=>(fun (u7:List Kont)=>(fun (u8:Int)=>(fun (u9:AV)=>(fun (u10:AV)=>(fun (u11:Nat × AV)=>(fun (u12:AV)=>(fun (u13:AObj)=>(fun (u14:Nat × AV)=>(decide (u6<u8)=true->(0<=u6/\u6<u8)/\1<=1/\2<=2/\(true=true/\Does Tryd.prog R 47 [au p,ow true 1 n 1,int IntKind.u32 (List.getD b.l i 0)] u4 g (ret (agg 2 (nth u2))) u4 g)/\2<=2/\(∀(c:Nat),c<2->nth u2 c=aj (nth [int i64 0,u9]) 0 2 (List.brecOn (motive:=fun (x:List AV)=>Nat->AV) u2 nth._f) c)/\Flw Tryd.prog/\2<=2/\(∀(hp':List AObj) (g':R.σ),SameO [] [u13,cells false (n*1) fun a=>int i64 (w a),cells false 0 (aP []),cells false 2 (nth u2)] hp'->OpOk Tryd.prog R (Oper.mk (some 61) (Op.slice 29 (Operand.tmp 56) none (some (Operand.tmp 58)) (some (Operand.tmp 60))) 29 "outright.go:87" #[Edge.mk 1 Ground.data,Edge.mk 3 Ground.data,Edge.mk 5 Ground.data] none) (evO [Row.mk (some 60) none u12 false (some []) [],Row.mk (some 59) none u10 false (some []) [],Row.mk (some 58) none u12 false (some []) [],Row.mk (some 57) none u10 false (some []) [],Row.mk (some 56) none u10 false (some []) [],Row.mk (some 55) none (au p) false (some []) [0]] [(2,ref 0 0),u5,u11,(9,u10),(10,int i64 u6),(12,ref 3 0),u3,u14,(45,int i64 u6)] []) hp' g' u9 hp' g')/\2<=2/\0<2/\32<=aB/\1<=aB/\2<=2/\(∀(c:Nat),c<2->aP [s] c=aT 2 0 (fun (x x_1:Nat)=>any) (fun (i j:Nat)=>aj (fun (j:Nat)=>nth [int i64 0,u9] (j%2)) 0 2 (List.brecOn (motive:=fun (x:List AV)=>Nat->AV) u2 nth._f) (0+i*2+j)) c)/\(true=true/\Does Tryd.prog R 23 [au p,ow true 5 1 2] [u13,cells false (n*1) fun a=>int i64 (w a),cells false 0 (aP []),cells false 2 (nth u2),cells false 2 (aj (fun (j:Nat)=>nth [int i64 0,u9] (j%2)) 0 2 (List.brecOn (motive:=fun (x:List AV)=>Nat->AV) u2 nth._f)),cells false 2 (aP [s])] g (ret (tup 2 (nth [u12,int i64 7]))) u1 g)/\(true=true->(false=true->WpC Tryd.prog R 115 0 11 [1,1,1,1,1,1,0,1,0,0,1,1,0,0,1,1,1,0,1,0,0,1,0] Q (Kont.seq [1,1,1,1,1,1,0,1,0,0,1,1,0,0,1,1,1,0,1,0,1]::u7) (St.mk [(2,ref 0 0),u5,u11,(9,u10),u3,u14,(45,int i64 u6),(77,AV.bool false)] u1 g))/\(false=false->(-9223372036854775808<=u6+1/\u6+1<=9223372036854775807)/\Q AEx.normal (St.mk [(2,ref 0 0),u5,u11,(9,u10),u3,u14,(45,int i64 (u6+1))] u1 g)))/\(true=false->WpC Tryd.prog R 115 0 11 [1,1,1,1,1,1,0,1,0,0,1,1,0,0,1,1,1,0,1,1] Q u7 (St.mk [(2,ref 0 0),u5,u11,(9,u10),(10,int i64 u6),(12,ref 3 0),(13,u12),(14,int i64 7),u3,u14,(45,int i64 u6),(69,AV.bool true)] u1 g)))/\(decide (u6<u8)=false->WpC Tryd.prog R 115 0 11 [1,1,1,1,1,1,0,1,0,0,1,0,1] Q [Kont.seq [1,1,1,1,1,1,0,1,0,0,1,1]] (St.mk [(2,ref 0 0),u5,u11,(9,u10),u3,u14,(45,int i64 u6),(46,AV.bool (decide (u6<u8)))] u4 g))) ((44,int i64 u8))) (cells false 2 (nth [int i64 p.atoms,ae p.rules]))) (int i64 (↑0:Int))) ((8,ow true 1 n 1))) (ow true 2 0 2)) (fz Fz.nil 0 0 fun x x_1=>any)) ((↑M:Int))) ([Kont.seq [1,1,1,1,1,1,0,1,0,0,1,1,0,0,1,1,1,1],Kont.blk 1,Kont.seq [1,1,1,1,1,1,0,1,0,0,1,1,1]])) ((↑i:Int))) ((6,fz V.2 1 (List.length V.l) fun i x=>af V.l i))) ([cells false 2 (nth [int i64 p.atoms,ae p.rules]),cells false (n*1) fun a=>int i64 (w a),cells false 0 (aP [])])) ((43,fz (cL b.k) 1 M fun i x=>int IntKind.u32 (List.getD b.l i 0)))) ([int i64 (ak s).rule,fz Fz.auto 1 (List.length (ak s).atoms.l) fun i x=>af (ak s).atoms.l i])) ([cells false 2 (nth [int i64 p.atoms,ae p.rules]),cells false (n*1) fun a=>int i64 (w a),cells false 0 (aP []),cells false 2 (nth [int i64 (ak s).rule,fz Fz.auto 1 (List.length (ak s).atoms.l) fun i x=>af (ak s).atoms.l i]),cells false 2 (aj (fun (j:Nat)=>nth [int i64 0,fz Fz.nil 0 0 fun x x_1=>any] (j%2)) 0 2 (List.brecOn (motive:=fun (x:List AV)=>Nat->AV) [int i64 (ak s).rule,fz Fz.auto 1 (List.length (ak s).atoms.l) fun i x=>af (ak s).atoms.l i] nth._f)),dead])) ⟨fun _=>⟨omg,omg,omg,⟨rfl,(doT (T:=LT) [1] 3 (fun R _ g=>hS R g) (hob:=by exact⟨⟨rfl,Nat.le_refl _,fun j hj=>(by first|exact bc (by first|exact trivial|apply fc)|exact Ag (gc rfl).symm)⟩,trivial⟩) (e3:=by exact⟨Ah,⟨rfl,Nat.le_refl _,fun j hj=>(by first|exact bq (by first|exact trivial|apply fc)|exact Ag (gc rfl))⟩,Ah,trivial⟩))⟩,omg,(fun c hc=>match c,hc with|0,_=>krf|1,_=>krf ),krf,omg,?_,omg,omg,omg,omg,omg,?_,⟨rfl,(doT (T:=LT) [5] 6 (fun R _ g=>hW R g))⟩,fun _=>⟨fun h=>(nomatch h),fun _=>⟨omg,?_⟩⟩,fun h=>(nomatch h)⟩,fun hcc=>(nomatch (hki.symm.trans hcc))⟩
     ·intro hp' g' hh
      exact sK rfl rfl rfl rfl krf
     ·intro c hc
      exact(iJ (l:=[]) (z:=fun j=>nth [.int .i64 0,.fz .nil 0 0 fun _ _=>.any] (j%2)) rfl hc).trans krf
     refine(aU (i+1,0,[],w) (toS [0,1,2] 6 (hob:=⟨⟨rfl,Nat.le_refl _,fun j hj=>match j,hj with|0,_=>(Af _)|1,_=>(Af _) ⟩,?_,⟨rfl,Nat.le_refl _,fun j hj=>absurd hj (Nat.not_lt_zero j)⟩,trivial⟩)) ?_ ?_)
     ·exact Ai _
     ·exact⟨by show i+1<=M;omega,hxs,rfl⟩
     ·show M-(i+1)<M-i
      omega
  ·have hie:i=M:=by omega
   subst hie
   have hki:decide ((i:Int)<(i:Int))=false:=decide_eq_false omg
   refine vcR [[1,1,1,1,1,1,0,1,0,0,1,0,0]] (lkL [(9,[2,6,8,9,43,44,45,46])]) (fun _=>[]) (fun Q=>(fun (u1:St R.σ)=>(fun (u2:Int)=>(decide (u2<u2)=true->WpC Tryd.prog R 115 0 11 [1,1,1,1,1,1,0,1,0,0,1,0,0] Q [Kont.seq [1,1,1,1,1,1,0,1,0,0,1,1]] u1)/\(decide (u2<u2)=false->Q (AEx.exit 0) u1)) ((↑i:Int))) (St.mk [(2,ref 0 0),(6,fz V.2 1 (List.length V.l) fun i x=>af V.l i),(8,ow true 1 n 1),(9,ow true 2 m 2),(43,fz (cL b.k) 1 i fun i x=>int IntKind.u32 (List.getD b.l i 0)),(44,int i64 (↑i:Int)),(45,int i64 (↑i:Int)),(46,AV.bool (decide ((↑i:Int)<(↑i:Int))))] [cells false 2 (nth [int i64 p.atoms,ae p.rules]),cells false (n*1) fun a=>int i64 (w a),cells false (m*2) (aP l)] g)) ⟨fun hcc=>(nomatch (hki.symm.trans hcc)),fun _=>?_⟩
   refine⟨_,Ar _,vcR [] (lkL [(29,[4])]) (lkL [(29,[(0,ROrc.kcall (AV.bool true))])]) (fun Q=>(fun (u1:List AObj)=>(true=true/\Does Tryd.prog R 15 [] u1 g (ret (AV.bool true)) u1 g)/\Q AEx.ret (St.mk [(4,AV.bool true)] u1 g)) ([cells false 2 (nth [int i64 p.atoms,ae p.rules]),cells false (n*1) fun a=>int i64 (w a),cells false (m*2) (aP l)])) ⟨⟨rfl,(doT (T:=LT) [] 3 (fun R _ g=>sA R g))⟩,?_⟩⟩
   refine(av (bG _ _ rfl trivial trivial rfl) (Af _))
theorem z4:Rea Tryd.prog 60 1 QU (fun x _=>kb x):=
 Rea.map (m4 Tryd.underlying60 krf omg (kL Tryd.underlying65)) ou (fun x h v hv=>by
  have:=h.1 v hv
  simp[Lit.wf,IntKind.min,IntKind.max,IntKind.signed,IntKind.bits] at this
  omega) (fun x j hj=>rfl)
theorem z5:Arg Tryd.prog 60 QU kb:=vi Tryd.underlying60 z4
theorem z6 (R:Res)[Tab LT R](p:Prg)(b:KL Int)(g:R.σ)(hq:QU b):Does Tryd.prog R 11 [au p,kb b] [] g (.ret (.bool true)) [] g:=z3 R p b hq g
end Go.Avm.Pack
namespace Go.Proofs.YtbdagmhndndliaaDoor
open Go Go.Avm Go.Avm.Pack Go.WideShapes Go.ChangeShapes Go.ChangeAt
def z7 (cs:Array Value):Obj->Obj
 |.cells _ t frozen=>.cells cs t frozen
 |o=>o
noncomputable def oB (os:Os):World:=
 { World.holding Tryd.prog os ⟨#[],#[],[]⟩ with heap:=(World.holding Tryd.prog os ⟨#[],#[],[]⟩).heap.modify 0 (z7 #[.int .u8 0,.int .u8 1,.int .u8 56,.int .u8 2,.int .u8 57,.int .u8 49,.int .u8 28,.int .u8 3,.int .u8 61,.int .u8 58,.int .u8 42,.int .u8 50,.int .u8 38,.int .u8 29,.int .u8 17,.int .u8 4,.int .u8 62,.int .u8 47,.int .u8 59,.int .u8 36,.int .u8 45,.int .u8 43,.int .u8 51,.int .u8 22,.int .u8 53,.int .u8 39,.int .u8 33,.int .u8 30,.int .u8 24,.int .u8 18,.int .u8 12,.int .u8 5,.int .u8 63,.int .u8 55,.int .u8 48,.int .u8 27,.int .u8 60,.int .u8 41,.int .u8 37,.int .u8 16,.int .u8 46,.int .u8 35,.int .u8 44,.int .u8 21,.int .u8 52,.int .u8 32,.int .u8 23,.int .u8 11,.int .u8 54,.int .u8 26,.int .u8 40,.int .u8 15,.int .u8 34,.int .u8 20,.int .u8 31,.int .u8 10,.int .u8 25,.int .u8 14,.int .u8 19,.int .u8 9,.int .u8 13,.int .u8 8,.int .u8 7,.int .u8 6]) }
theorem z8 (os:Os):laidMet Tryd.prog Rows.tableAnyRow.laid ((oB os).forCall (fun _ _=>0) ⟨#[],#[.agg #[.int .i64 0,.slice none 0 0],.slice none 0 0],[]⟩).memory:=
 laidMet_of_run' 8 (by kernel_rfl) (by kernel_rfl)
theorem z9 (os:Os){H:Type}(enc:TypeId × Value->H):∃places,DataW.whole enc Tryd.prog ((oB os).forCall (fun _ _=>0) ⟨#[],#[.agg #[.int .i64 0,.slice none 0 0],.slice none 0 0],[]⟩).memory Tryd.f11.params.toList Rows.tableAnySpec.vars false (#[.agg #[.int .i64 0,.slice none 0 0],.slice none 0 0]:Array Value).toList 8=some ([.agg [.lit (.int .i64 0),.nil],.nil],[],places):=
 ⟨[],by kernel_rfl⟩
theorem Aa (W:World)(h:laidMetH Tryd.prog Rows.tableAnyRow.laid W):cP gsT (dl W):=by
 have h:laidMet Tryd.prog [("math/bits.deBruijn64tab",Lib.tabData .u8 gD)] W:=h
 exact vr (t:=164) (e:=5) (n:=64) (by kernel_rfl) (by kernel_rfl) Tryd.underlying164 Tryd.underlying5 (by kernel_rfl) (by kernel_rfl) h (fun _=>vq)
set_option maxRecDepth 100000 in
theorem Ab (os:Os)(started:os.Started)(H:Type)(enc:TypeId × Value->H)(F:Stop.Interp) :
  ReturnsInHanded {} Tryd.checked os 11 .any ((OpenSpec.ofChange Rows.tableAnySpec).preRow enc Tryd.prog Tryd.f11 Rows.tableAnyRow.domain Rows.tableAnyRow.apart Rows.tableAnyRow.laid) (((OpenSpec.ofChange Rows.tableAnySpec).at F).post enc Tryd.prog Tryd.f11 Rows.tableAnyRow.apart Rows.tableAnyRow.fresh Rows.tableAnyRow.handsOn Rows.tableAnyRow.again):=by
 obtain⟨places,hx⟩:=z9 os enc
 exact vu (C:=Tryd.checked) (s:=Rows.tableAnySpec) (tb:=4) (gs:=gsT) (X:=fun l=>∃a:Prg,True/\∃l',(∃b:KL Int,QU b/\∃l'',(l''=[])/\l'=kb b::l'')/\l=au a::l') (by kernel_rfl) started (by kernel_rfl) Tryd.func11
  (witness_row_at (enc:=enc) (C:=Tryd.checked) false (oB os) #[.agg #[.int .i64 0,.slice none 0 0],.slice none 0 0] rfl (by kernel_rfl) (by kernel_rfl) (by kernel_rfl)
   (OpenSpec.preRow_of_cond 8 hx (by kernel_rfl) (fun k hk=>by cases hk) (by kernel_rfl) (z8 os)))
  rfl (fun ds h=>by
   match ds,h with
   |[_,_],_=>rfl) (by kernel_rfl)
  (fun t ht=>by
   have ht:t∈([24,60]:List Nat):=ht
   simp only[List.mem_cons,List.not_mem_nil,or_false] at ht
   rcases ht with rfl|rfl <;> exact⟨by kernel_rfl,of_decide_eq_true (by kernel_rfl)⟩) rfl Tryd.underlying4 Aa
  ((qg zj (qg z5 vk)))
  (fun avs ⟨a,ha,_,⟨b,hb,_,e0,e1⟩,e2⟩=>by
   subst e0 e1 e2
   exact z6 (Res.tab gsT) a b () hb)
theorem Ac:Rows.TableAnySaid:=
 OpenClaim.holds_of_cond 11 Tryd.f11 rfl rfl rfl rfl rfl rfl rfl ⟨rfl,rfl,rfl,rfl,rfl⟩ rfl rfl rfl rfl rfl (by kernel_rfl) Tryd.func11 (by kernel_rfl)
  (of_decide_eq_true (by kernel_rfl)) (by unfold Func.isWrapper;first|(rw[if_pos (by decide +kernel)];kernel_rfl)|(rw[if_neg (by decide +kernel)];exact⟨rfl,rfl⟩))
  (fun os started H enc _ F=>by rw[OpenClaim.pre_eq_preRow];exact Ab os started H enc F)
theorem Ad (f:FuncId)(fn:Func)(hf:Tryd.pinned.checked.prog.funcNamed "swingle/swinglelaw18.TableAny"=some f)(hfn:Tryd.pinned.checked.prog.funcs[f]? = some fn) :
  true=Tryd.pinned.checked.prog.looks []/\∀(j:Nat) t,fn.params[j]? = some t->Tryd.pinned.checked.prog.wantsStandIn t=false:=by
 obtain rfl:f=11:=Option.some.inj ((show Tryd.prog.funcNamed "swingle/swinglelaw18.TableAny"=some 11 by kernel_rfl).symm.trans hf) |>.symm
 obtain rfl:fn=Tryd.f11:=(Option.some.inj (Tryd.func11.symm.trans hfn)).symm
 refine⟨by kernel_rfl,fun j t ht=>?_⟩
 have hm:t∈(Tryd.f11.params).toList:=Array.mem_toList_iff.2 (Array.mem_of_getElem? ht)
 have hm:t∈([24,60]:List Nat):=hm
 simp only[List.mem_cons,List.not_mem_nil,or_false] at hm
 rcases hm with rfl|rfl
 ·exact(show Tryd.prog.wantsStandIn 24=false by kernel_rfl)
 ·exact(show Tryd.prog.wantsStandIn 60=false by kernel_rfl)
theorem tableAny_holds:Rows.TableAnyCardSaid:=
 Claim7.holds_tied_plain_at .later [] _ _ _ _ Ac (fun _ h=>by cases h) (by kernel_rfl) (fun _ h=>by cases h) tableAny_row_tie rfl ⟨rfl,rfl⟩ (by kernel_rfl) rfl Ad (by kernel_rfl)
#print axioms tableAny_holds
end Go.Proofs.YtbdagmhndndliaaDoor
